/- V: part 7 of an engine (a symbolic evaluator, proved against the model) and of the walk by it. -/
import Derived.Test.YtellkjlbhaikeaaGreatV6
import Derived.Test.YtellkjlbhaikeaaGreatRows
import Derived.ChangeOld
set_option linter.unusedVariables false
set_option linter.unusedSimpArgs false
set_option maxRecDepth 100000
set_option maxHeartbeats 0
section
namespace Go.Tk
open IntKind (i64 u8 u32 u64 wrap)
noncomputable def Zj1 : Zf := G0.withP 78 Z7j
theorem ZeZ : Zj1.Ok := Zf.withP_ok Zr Z9B
theorem Za3 {H : List Int → List Int} {t : Yu} {side res a b : Int} : Yp H (WD t side res a b) = true ↔ XJ t = true ∧ (0 ≤ side ∧ side ≤ 1) ∧ (0 ≤ res ∧ res ≤ t.cap / 10) ∧ (0 ≤ a ∧ a ≤ t.cap) ∧ b = t.cap - a ∧ 0 ≤ a - res - t.fee := by
 rw [Qh, Z0i]
 have o : ∀ s, ZO (WD t side res a b).side s (WD t side res a b).L = [] := fun _ => rfl
 have e : Y0 (WD t side res a b) 0 = a - res - t.fee := by
  rw [Xe, Qi (o 0), if_pos rfl]
  show a - 0 - res - t.fee = _
  omega
 rw [o, o, e]
 constructor
 ·rintro ⟨⟨h1, h2, h3, h4, h5, _⟩, _, h6, _⟩
  exact ⟨h1, h2, h3, h4, h5, h6⟩
 ·rintro ⟨h1, h2, h3, h4, h5, h6⟩
  exact ⟨⟨h1, h2, h3, h4, h5, ⟨Int.le_refl 0, show (0 : Int) ≤ 2147483648 by decide⟩, ⟨Int.le_refl 0, show (0 : Int) ≤ 2147483648 by decide⟩, Nat.zero_le _, Nat.zero_le _⟩, fun i hi => absurd hi (Nat.not_lt_zero _), h6, .inl rfl⟩
theorem Zj2 (t : Yu) (side res a b : Int) (X Y : Z6) (e : Int) (H1 : List Int → List Int) (ht : t.Ok) (hX : X = WD t side res a b) (hY : Y = cond (Yp H1 X) X Yj) (he : e = cond (Yp H1 X) 0 2) :
  evF Zj1 20 10 [.agg t.c, .int .i64 side, .int .i64 res, .agg [.arr .i64 2 [a, b]]] ⟨0, []⟩ (Yd fun v => v = .tuple [.agg (Y.c .nilslice), .int .i64 e]) := by
 refine @Eq.mpr _ (let q1 := t.cap;
 let q2 := t.fee;
 let q3 := Yu.mk t.fund t.index q1 t.dust q2 t.delay t.k0 t.k1;
 let q4 := AV.arr u8 32 Zd;
 let q5 := AV.int i64 0;
 let q6 := AV.arr i64 2 [(0 : Int), 0];
 let q7 := [q6, AV.nilslice];
 let q8 := AV.tuple [AV.agg (Z6.c Y AV.nilslice), AV.int i64 e];
 let q9 := AV.tuple [AV.agg (q4 :: q5 :: q5 :: q5 :: q5 :: q5 :: q4 :: q4 :: q5 :: q5 :: q6 :: q7), AV.int i64 2] = q8;
 let q10 := decide (res < 0);
 let q11 := decide (res > wrap i64 (Int.tdiv q1 10));
 let q12 := decide (a ≥ 0);
 let q13 := !decide (a ≤ 1125899906842624);
 let q14 := decide (b ≥ 0);
 let q15 := !decide (b ≤ 1125899906842624);
 let q16 := wrap i64 (a + b) != q1;
 let q17 := AV.tuple [AV.agg (AV.arr u8 32 t.fund :: AV.int i64 t.index :: AV.int i64 q1 :: AV.int i64 t.dust :: AV.int i64 q2 :: AV.int i64 t.delay :: AV.arr u8 32 t.k0 :: AV.arr u8 32 t.k1 :: AV.int i64 side :: AV.int i64 res :: AV.arr i64 2 [a, b] :: q7), q5] = q8;
 Yu.Ok q3 ∧ Z0 (!XJ q3) q9 (Z0 (side != 0) (Z0 (side != 1) q9 (Z0 q10 q9 (Z0 q11 q9 (Z0 q12 (Z0 q13 q9 (Z0 q14 (Z0 q15 q9 (Z0 q16 q9 (Z0 (decide (wrap i64 (wrap i64 (wrap i64 (a - 0) - res) - q2) ≥ 0)) q17 q9))) q9)) q9)))) (Z0 q10 q9 (Z0 q11 q9 (Z0 q12 (Z0 q13 q9 (Z0 q14 (Z0 q15 q9 (Z0 q16 q9 (Z0 (decide (wrap i64 (wrap i64 (wrap i64 (a - 0) - res) - q2) ≥ 0)) q17 q9))) q9)) q9))))) (by kernel_rfl) ?_
 conv => zeta
 try simp only [Zh]
 try simp only [Zj]
 try simp only [Zi]
 try simp only [Zk]
 try simp only [Zl]
 try simp only [Zg]
 try simp only [Int.toNat_natCast, Nat.zero_add, true_and, and_true, Nat.le_refl]
 have e0 : Yu.mk t.fund t.index t.cap t.dust t.fee t.delay t.k0 t.k1 = t := rfl
 rw [e0]
 have hr := Za3 (H := H1) (t := t) (side := side) (res := res) (a := a) (b := b)
 rw [← hX] at hr
 have bad : ¬ (Yp H1 X = true) → AV.tuple [.agg (Yj.c .nilslice), .int .i64 2] = AV.tuple [.agg (Y.c .nilslice), .int .i64 e] := fun h => by rw [hY, he, Bool.eq_false_iff.2 h]; rfl
 have good : Yp H1 X = true → AV.tuple [.agg (X.c .nilslice), .int .i64 0] = AV.tuple [.agg (Y.c .nilslice), .int .i64 e] := fun h => by rw [hY, he, h]; rfl
 refine ⟨ht, fun k => bad fun h => ?_, fun k1 => ?_⟩
 ·rw [(hr.1 h).1] at k; simp at k
 have k1 : XJ t = true := by simpa using k1
 have tb := ZZ k1
 have td : i64.wrap (Int.tdiv t.cap 10) = t.cap / 10 := by rw [Int.tdiv_eq_ediv_of_nonneg (by omega), w64 (by omega)]
 rw [td]
 have main : (0 ≤ side ∧ side ≤ 1) → (res < 0 → AV.tuple [.agg (Yj.c .nilslice), .int .i64 2] = AV.tuple [.agg (Y.c .nilslice), .int .i64 e]) ∧ (¬ res < 0 → (res > t.cap / 10 → AV.tuple [.agg (Yj.c .nilslice), .int .i64 2] = AV.tuple [.agg (Y.c .nilslice), .int .i64 e]) ∧ (¬ res > t.cap / 10 → (a ≥ 0 → ((!decide (a ≤ 1125899906842624)) = true → AV.tuple [.agg (Yj.c .nilslice), .int .i64 2] = AV.tuple [.agg (Y.c .nilslice), .int .i64 e]) ∧ ((!decide (a ≤ 1125899906842624)) = false → (b ≥ 0 → ((!decide (b ≤ 1125899906842624)) = true → AV.tuple [.agg (Yj.c .nilslice), .int .i64 2] = AV.tuple [.agg (Y.c .nilslice), .int .i64 e]) ∧ ((!decide (b ≤ 1125899906842624)) = false → ((i64.wrap (a + b) != t.cap) = true → AV.tuple [.agg (Yj.c .nilslice), .int .i64 2] = AV.tuple [.agg (Y.c .nilslice), .int .i64 e]) ∧ ((i64.wrap (a + b) != t.cap) = false → (i64.wrap (i64.wrap (i64.wrap (a - 0) - res) - t.fee) ≥ 0 → AV.tuple [.agg (X.c .nilslice), .int .i64 0] = AV.tuple [.agg (Y.c .nilslice), .int .i64 e]) ∧ (¬ i64.wrap (i64.wrap (i64.wrap (a - 0) - res) - t.fee) ≥ 0 → AV.tuple [.agg (Yj.c .nilslice), .int .i64 2] = AV.tuple [.agg (Y.c .nilslice), .int .i64 e])))) ∧ (¬ b ≥ 0 → AV.tuple [.agg (Yj.c .nilslice), .int .i64 2] = AV.tuple [.agg (Y.c .nilslice), .int .i64 e]))) ∧ (¬ a ≥ 0 → AV.tuple [.agg (Yj.c .nilslice), .int .i64 2] = AV.tuple [.agg (Y.c .nilslice), .int .i64 e]))) := fun hs => by
  refine ⟨fun k => bad fun h => ?_, fun k2 => ⟨fun k => bad fun h => ?_, fun k3 => ⟨fun k4 => ⟨fun k => bad fun h => ?_, fun k5 => ⟨fun k6 => ⟨fun k => bad fun h => ?_, fun k7 => ⟨fun k => bad fun h => ?_, fun k8 => ?_⟩⟩, fun k => bad fun h => ?_⟩⟩, fun k => bad fun h => ?_⟩⟩⟩
  ·have := (hr.1 h).2.2.1; omega
  ·have := (hr.1 h).2.2.1; omega
  ·have := (hr.1 h).2.2.2.1
   have : ¬ a ≤ 1125899906842624 := by simpa using k
   omega
  ·have := (hr.1 h).2.2.2
   have : ¬ b ≤ 1125899906842624 := by simpa using k
   omega
  ·have q := (hr.1 h).2.2.2
   have : ¬ i64.wrap (a + b) = t.cap := by simpa using k
   rw [w64 (by omega)] at this
   omega
  ·have k5 : a ≤ 1125899906842624 := by simpa using k5
   have k7 : b ≤ 1125899906842624 := by simpa using k7
   have k8 : i64.wrap (a + b) = t.cap := by simpa using k8
   rw [w64 (by omega)] at k8
   rw [w64 (x := a - 0) (by omega), w64 (x := a - 0 - res) (by omega), w64 (by omega)]
   refine ⟨fun k9 => good (hr.2 ⟨k1, hs, by omega, by omega, by omega, by omega⟩), fun k9 => bad fun h => ?_⟩
   have q := (hr.1 h).2.2.2.2.2
   omega
  ·have := (hr.1 h).2.2.2; omega
  ·have := (hr.1 h).2.2.2; omega
 rw [hX] at main
 refine ⟨fun h0 => ⟨fun h1 => bad fun h => ?_, fun h1 => main ?_⟩, fun h0 => main ?_⟩
 ·have := (hr.1 h).2.1
  have h0 : ¬ side = 0 := by simpa using h0
  have h1 : ¬ side = 1 := by simpa using h1
  omega
 ·have h1 : side = 1 := by simpa using h1
  omega
 ·have h0 : side = 0 := by simpa using h0
  omega
def ZfQ (H : List Int → List Int) : ZN := fun args h K => ZQ none h true 20 args fun v => match v with
 | [.agg [.arr .u8 32 fu, .int .i64 ix, .int .i64 ca, .int .i64 du, .int .i64 fe, .int .i64 de, .arr .u8 32 k0, .arr .u8 32 k1], .int .i64 sd, .int .i64 rs, .agg [.arr .i64 2 [a, b]]] =>
  Yu.Ok ⟨fu, ix, ca, du, fe, de, k0, k1⟩ ∧ Z0 (Yp H (WD ⟨fu, ix, ca, du, fe, de, k0, k1⟩ sd rs a b)) (K (.tuple [.agg ((WD ⟨fu, ix, ca, du, fe, de, k0, k1⟩ sd rs a b).c .nilslice), .int .i64 0])) (K (.tuple [.agg (Yj.c .nilslice), .int .i64 2]))
 | _ => False
theorem ZcS {H : List Int → List Int} (args : List AV) (h : Z9) (K : AV → Prop) (hl : ZfQ H args h K) : Zm PP 10 args h fun o h' => ∃ v, o = .ret v ∧ h' = h ∧ K v := by
 refine Zy.psumm (d := 20) (Zq _ _ _ _ _ hl fun a ha => ?_)
 split at ha
 ·rename_i fu ix ca du fe de k0 k1 sd rs a b
  obtain ⟨ht, hK⟩ := ha
  refine ⟨_, Zy.evV ZeZ (Zj2 ⟨fu, ix, ca, du, fe, de, k0, k1⟩ sd rs a b _ _ _ H ht rfl rfl rfl), fun _ => ?_, ?_⟩
  ·cases Yp H (WD ⟨fu, ix, ca, du, fe, de, k0, k1⟩ sd rs a b) <;> rfl
  ·cases hb : Yp H (WD ⟨fu, ix, ca, du, fe, de, k0, k1⟩ sd rs a b) <;> rw [hb] at hK <;> exact hK
 ·exact ha.elim
def Zf0 : ZN := fun args _ K => match args with
 | [] => K (.bool true)
 | _ => False
def Z6e : Ys := ⟨0, false, 0, 0, 0, Zd, 0, 0, false, 0⟩
def Z0N (A : List Ys) (i : Nat) : List AV := (A.getD i Z6e).c
noncomputable def Z8P (H : List Int → List Int) : Zf := ((((G0.withF 8 (Zfo H)).withP 10 (ZfQ H)).withF 11 Zh3).withP 14 ZiO).withP 7 Zf0
end Go.Tk
end
section
namespace Go.Tk
open IntKind (i64 u8 u32 u64 wrap)
theorem ZcT (hw : ∀ args h K, Zf0 args h K → Zm PP 7 args h fun o h' => ∃ v, o = .ret v ∧ h' = h ∧ K v) : (Z8P Zp).Ok := Zf.withP_ok (Zf.withP_ok (Zf.withF_ok (Zf.withP_ok (Zf.withF_ok Zr ZbK) ZcS) ZeY) ZeU) hw
def lpS (X : Z6) (A : List Ys) (n i : Nat) : St := ⟨85, [(17, .int .i64 i), (5, .vrows 41 n (Z0N A) n), (13, .ptr (some ⟨0, 0, 0, 0, 0⟩)), (15, .ptr (some ⟨1, 0, 0, 0, 0⟩))], ⟨4, [(0, .flat (X.c (slH 2 X.L.length))), (1, .flat (X.c (slH 3 X.L.length))), (2, .rows 70 X.L.length (Z4 X.L)), (3, .rows 70 X.L.length (Z4 X.L))]⟩, []⟩
def lpE : St := ⟨85, [], ⟨0, []⟩, []⟩
theorem Zkd (X Y : Z6) (A : List Ys) (n i : Nat) (a : Ys) (H : List Int → List Int) (Z1 Z2 : Prop) (hn : n ≤ 60) (hL : A.length = n) (hi : i ≤ n) (hI : X.Inv Zp) (hJ : i < n → Y.Inv Zp) (hf : X.t.fund.length = 32) (hg : i < n → Y.t.fund.length = 32) (hx : i < n → A.getD i Z6e = a) (ha : i < n → a.Ok) (hY : i < n → Y = actX X a) (hZ1 : i < n → Z1) (hZ2 : i = n → Z2) :
  ZJ (Z8P H) 20 4 0 0 (lpS X A n i) (rdM 0 0 9 (lpS Y A n (i + 1)) lpE lpE lpE Z1 Z2 False False) := by
 refine @Eq.mpr _ (let q1 := List.length X.L;
 let q2 := List.getD A (Int.toNat (↑i : Int)) Z6e;
 let q3 := X.t;
 let q4 := AV.arr u8 32 q3.fund;
 let q5 := AV.int i64 q3.index;
 let q6 := AV.int i64 q3.cap;
 let q7 := AV.int i64 q3.dust;
 let q8 := AV.int i64 q3.fee;
 let q9 := AV.int i64 q3.delay;
 let q10 := AV.arr u8 32 q3.k0;
 let q11 := AV.arr u8 32 q3.k1;
 let q12 := AV.int i64 X.side;
 let q13 := AV.int i64 X.res;
 let q14 := AV.arr i64 2 [X.a0, X.a1];
 let q15 := AV.arr i64 2 [X.i0, X.i1];
 let q16 := Z4 X.L;
 let q17 := decide (wrap i64 ((↑i : Int) + 1) = (↑(i + 1) : Int));
 let q18 := decide (n = n);
 let q19 := Z0N A = Z0N A;
 let q20 := Y.t;
 let q21 := q20.fund;
 let q22 := q20.index;
 let q23 := q20.cap;
 let q24 := q20.dust;
 let q25 := q20.fee;
 let q26 := q20.delay;
 let q27 := q20.k0;
 let q28 := q20.k1;
 let q29 := [Y.a0, Y.a1];
 let q30 := [Y.i0, Y.i1];
 let q31 := List.length Y.L;
 let q32 := [(1, 1), (0, 0)];
 let q33 := Z4 Y.L;
 Z0 (decide ((↑i : Int) < (↑n : Int)))
 (Z0 (decide (0 ≤ (↑i : Int) ∧ (↑i : Int) < (↑n : Int)))
 ((∀ (i : Nat), i < q1 → true = true) ∧
 (∀ (i : Nat), i < q1 → true = true) ∧
 ∃ (X_1 : Z6),
 let q67 := List.length X_1.L;
 let q68 := X_1.t;
 let q69 := q68.fund;
 let q70 := q68.index;
 let q71 := q68.cap;
 let q72 := q68.dust;
 let q73 := q68.fee;
 let q74 := q68.delay;
 let q75 := q68.k0;
 let q76 := q68.k1;
 let q77 := [X_1.a0, X_1.a1];
 let q78 := [X_1.i0, X_1.i1];
 let q79 := Z4 X_1.L;
 let q80 := q69 = q21;
 let q81 := decide (q70 = q22);
 let q82 := decide (q71 = q23);
 let q83 := decide (q72 = q24);
 let q84 := decide (q73 = q25);
 let q85 := decide (q74 = q26);
 let q86 := q75 = q27;
 let q87 := q76 = q28;
 let q88 := decide (X_1.side = Y.side);
 let q89 := decide (X_1.res = Y.res);
 let q90 := q77 = q29;
 let q91 := q78 = q30;
 let q92 := decide (q67 = q31);
 let q93 := decide (q31 ≤ q67);
 let q94 := Za 0 ((3, 3) :: (2, 2) :: q32) q31 q33 q79;
 ∃ (a : Ys),
 let q123 := actX X_1 a;
 let q124 := q123.L;
 let q125 := List.length q124;
 let q126 := q123.t;
 let q127 := q126.fund;
 let q128 := q126.index;
 let q129 := q126.cap;
 let q130 := q126.dust;
 let q131 := q126.fee;
 let q132 := q126.delay;
 let q133 := q126.k0;
 let q134 := q126.k1;
 let q135 := q123.side;
 let q136 := q123.res;
 let q137 := [q123.a0, q123.a1];
 let q138 := [q123.i0, q123.i1];
 let q139 := Z4 q124;
 let q140 := q127 = q21;
 let q141 := decide (q128 = q22);
 let q142 := decide (q129 = q23);
 let q143 := decide (q130 = q24);
 let q144 := decide (q131 = q25);
 let q145 := decide (q132 = q26);
 let q146 := q133 = q27;
 let q147 := q134 = q28;
 let q148 := decide (q135 = Y.side);
 let q149 := decide (q136 = Y.res);
 let q150 := q137 = q29;
 let q151 := q138 = q30;
 let q152 := decide (q125 = q31);
 let q153 := decide (q31 ≤ q125);
 let q154 := Za 0 ((3, 5) :: (2, 4) :: q32) q31 q33 q139;
 a = Ys.mk q2.what q2.own q2.off q2.amount q2.expiry q2.secret q2.at' q2.move q2.ours q2.number ∧
 LA [q4, q5, q6, q7, q8, q9, q10, q11, q12, q13, q14, q15, AV.nslice (ZG.mk 1 0 70 0 0) 70 q1 q1] q1 q16 [q4, q5, q6, q7, q8, q9, q10, q11, q12, q13, q14, q15, AV.nslice (ZG.mk 2 0 70 0 0) 70 q1 q1] q1 q16 X_1 ∧
 Z6.Inv Zp X_1 ∧
 Ys.Ok a ∧
 (UU X_1 a →
 Z0 (decide (0 + q67 ≤ q67))
 ((∀ (i : Nat), i < q67 → true = true) ∧
 Z0 (decide (0 + q67 ≤ q67))
 ((∀ (i : Nat), i < q67 → true = true) ∧
 ∃ (X : Z6),
 let q187 := LV [AV.arr u8 32 q69, AV.int i64 q70, AV.int i64 q71, AV.int i64 q72, AV.int i64 q73, AV.int i64 q74, AV.arr u8 32 q75, AV.arr u8 32 q76, AV.int i64 X_1.side, AV.int i64 X_1.res, AV.arr i64 2 q77, AV.arr i64 2 q78, AV.vrows 70 q67 (ZT 0 q79) q67] X;
 q187 ∧ q187 ∧ Z6.Inv Zp X ∧ List.length X.t.fund = 32 ∧ Z0 q17 (Z0 q18 (q19 ∧ Z0 q18 (q80 ∧ Z0 q81 (Z0 q82 (Z0 q83 (Z0 q84 (Z0 q85 (q86 ∧ q87 ∧ Z0 q88 (Z0 q89 (q90 ∧ q91 ∧ Z0 q92 (Z0 q93 (q80 ∧ Z0 q81 (Z0 q82 (Z0 q83 (Z0 q84 (Z0 q85 (q86 ∧ q87 ∧ Z0 q88 (Z0 q89 (q90 ∧ q91 ∧ Z0 q92 (Z0 q93 (Z0 q92 (q94 ∧ Z0 q92 (q94 ∧ Z1) False) False) False) False) False) False) False) False) False) False) False) False) False) False) False) False) False) False) False) False) False) False) False)
 False)
 False) ∧
 (¬UU X_1 a →
 Z0 (decide (0 + q125 ≤ q125))
 ((∀ (i : Nat), i < q125 → true = true) ∧
 Z0 (decide (0 + q125 ≤ q125))
 ((∀ (i : Nat), i < q125 → true = true) ∧
 ∃ (X : Z6),
 let q187 := LV [AV.arr u8 32 q127, AV.int i64 q128, AV.int i64 q129, AV.int i64 q130, AV.int i64 q131, AV.int i64 q132, AV.arr u8 32 q133, AV.arr u8 32 q134, AV.int i64 q135, AV.int i64 q136, AV.arr i64 2 q137, AV.arr i64 2 q138, AV.vrows 70 q125 (ZT 0 q139) q125] X;
 q187 ∧ q187 ∧ Z6.Inv Zp X ∧ List.length X.t.fund = 32 ∧ Z0 q17 (Z0 q18 (q19 ∧ Z0 q18 (q140 ∧ Z0 q141 (Z0 q142 (Z0 q143 (Z0 q144 (Z0 q145 (q146 ∧ q147 ∧ Z0 q148 (Z0 q149 (q150 ∧ q151 ∧ Z0 q152 (Z0 q153 (q140 ∧ Z0 q141 (Z0 q142 (Z0 q143 (Z0 q144 (Z0 q145 (q146 ∧ q147 ∧ Z0 q148 (Z0 q149 (q150 ∧ q151 ∧ Z0 q152 (Z0 q153 (Z0 q152 (q154 ∧ Z0 q152 (q154 ∧ Z1) False) False) False) False) False) False) False) False) False) False) False) False) False) False) False) False) False) False) False) False) False) False) False)
 False)
 False))
 False)
 Z2) (by kernel_rfl) ?_
 conv => zeta
 try simp only [Zh]
 try simp only [Zj]
 try simp only [Zi]
 try simp only [Zk]
 try simp only [Zl]
 try simp only [Zg]
 try simp only [Int.toNat_natCast, Nat.zero_add, true_and, and_true, Nat.le_refl]
 refine ⟨fun hc => ?_, fun hc => hZ2 (by omega)⟩
 have hlt : i < n := by omega
 rw [hx hlt]
 have hwr : i64.wrap ((i : Int) + 1) = ((i + 1 : Nat) : Int) := by rw [w64 (by omega)]; omega
 have hY := hY hlt
 refine ⟨by omega, fun _ _ => trivial, fun _ _ => trivial, X, a, rfl, ⟨rfl, rfl, rfl, rfl, rfl, rfl⟩, hI, ha hlt, fun hk => ?_, fun hk => ?_⟩
 ·rw [ZcR hk] at hY
  subst hY
  repeat' first
   | exact hI
   | exact hf
   | exact hwr
   | exact hZ1 hlt
   | (intro _ _; trivial)
   | refine Exists.intro Y (And.intro (.a rfl) (And.intro (.a rfl) ?_))
   | apply And.intro
   | rfl
   | omega
   | exact Zn fun _ _ => rfl
 ·rw [← hY]
  repeat' first
   | exact hJ hlt
   | exact hg hlt
   | exact hwr
   | exact hZ1 hlt
   | (intro _ _; trivial)
   | refine Exists.intro Y (And.intro (.a rfl) (And.intro (.a rfl) ?_))
   | apply And.intro
   | rfl
   | omega
   | exact Zn fun _ _ => rfl
def lpX (X : Z6) (A : List Ys) (i : Nat) : Z6 := (A.take i).foldl actX X
theorem Z6f {X : Z6} {A : List Ys} {i : Nat} (hi : i < A.length) : lpX X A (i + 1) = actX (lpX X A i) (A.getD i Z6e) := Uz actX Z6e hi X
theorem Z8Q {X : Z6} (hI : X.Inv Zp) {A : List Ys} (hA : ∀ a ∈ A, a.Ok) : ∀ i, i ≤ A.length → (lpX X A i).Inv Zp ∧ (lpX X A i).t = X.t
 | 0, _ => ⟨hI, rfl⟩
 | i + 1, hi => by
  obtain ⟨h1, h2⟩ := Z8Q hI hA i (by omega)
  have ha : (A.getD i Z6e).Ok := hA _ (by rw [List.getD_eq_getElem?_getD, List.getElem?_eq_getElem hi]; exact List.getElem_mem hi)
  rw [Z6f hi]
  exact ⟨h1.actX ha, (Zj0 _ _).trans h2⟩
def Zh4 (X : Z6) (A : List Ys) (n : Nat) : Prop := n ≤ 60 ∧ A.length = n ∧ X.Inv Zp ∧ X.t.fund.length = 32 ∧ ∀ a ∈ A, a.Ok
noncomputable def Zh5 (H : List Int → List Int) (X : Z6) (A : List Ys) (n : Nat) (C : Prop) : Zf := (Z8P H).withL 4 0 (goM 0 (lpS X A n 0) C (Yt 0 n 9 (fun i => i < n) (fun i => i = n) (fun _ => False) (fun _ => False) (fun _ => lpE) (fun _ => lpE) (fun _ => lpE)))
theorem Zf1 (hE : (Z8P Zp).Ok) (X : Z6) (A : List Ys) (n : Nat) : (Zh5 Zp X A n (Zh4 X A n)).Ok :=
 Zf.withGoM (N := 20) (S := fun i => lpS (lpX X A i) A n i) hE (by kernel_rfl) fun hC => ⟨rfl, fun i hi _ => by
  obtain ⟨h1, h2, h3, h4, h5⟩ := hC
  have hk := fun j hj => Z8Q h3 h5 j hj
  exact Zkd (lpX X A i) (lpX X A (i + 1)) A n i (A.getD i Z6e) Zp _ _ h1 h2 hi (hk i (by omega)).1 (fun h => (hk (i + 1) (by omega)).1) (by rw [(hk i (by omega)).2]; exact h4) (fun h => by rw [(hk (i + 1) (by omega)).2]; exact h4) (fun _ => rfl) (fun h => h5 _ (by rw [List.getD_eq_getElem?_getD, List.getElem?_eq_getElem (by omega)]; exact List.getElem_mem (by omega))) (fun h => Z6f (by omega)) (fun h => ⟨h, h⟩) (fun h => h)⟩
theorem Zke (t : Yu) (sd rs x y : Int) (A : List Ys) (n : Nat) (H : List Int → List Int) (X : Z6) (C : Prop) (hX : X = WD t sd rs x y) (ht : t.Ok) (hC : n ≤ 60 → Yp H X = true → C) :
  evF (Zh5 H X A n C) 20 4 [.agg t.c, .int .i64 sd, .int .i64 rs, .int .i64 x, .int .i64 y, .vrows 41 n (Z0N A) n] ⟨0, []⟩ (Yd fun v => v = .bool true) := by
 refine @Eq.mpr _ (let q1 := AV.bool true;
 let q2 := q1 = q1;
 let q3 := Yu.mk t.fund t.index t.cap t.dust t.fee t.delay t.k0 t.k1;
 let q4 := Yu.Ok q3;
 let q5 := WD q3 sd rs x y;
 let q6 := Yp H q5;
 let q7 := decide (n = n);
 let q8 := q5.t;
 let q9 := X.t;
 let q10 := q8.fund = q9.fund;
 let q11 := decide (q8.index = q9.index);
 let q12 := decide (q8.cap = q9.cap);
 let q13 := decide (q8.dust = q9.dust);
 let q14 := decide (q8.fee = q9.fee);
 let q15 := decide (q8.delay = q9.delay);
 let q16 := q8.k0 = q9.k0;
 let q17 := q8.k1 = q9.k1;
 let q18 := decide (q5.side = X.side);
 let q19 := decide (q5.res = X.res);
 let q20 := [q5.a0, q5.a1] = [X.a0, X.a1];
 let q21 := [q5.i0, q5.i1] = [X.i0, X.i1];
 let q22 := List.length X.L;
 let q23 := decide (0 = q22);
 let q24 := decide (q22 = 0);
 let q25 := AV.bool false = q1;
 Z0 (decide ((↑n : Int) > 60)) q2 (q4 ∧ Z0 q6 (q4 ∧ Z0 q6 (Z0 q7 (Z0N A = Z0N A ∧ Z0 q7 (q10 ∧ Z0 q11 (Z0 q12 (Z0 q13 (Z0 q14 (Z0 q15 (q16 ∧ q17 ∧ Z0 q18 (Z0 q19 (q20 ∧ q21 ∧ Z0 q23 (Z0 (decide (q22 ≤ 0)) (q10 ∧ Z0 q11 (Z0 q12 (Z0 q13 (Z0 q14 (Z0 q15 (q16 ∧ q17 ∧ Z0 q18 (Z0 q19 (q20 ∧ q21 ∧ Z0 q24 (Z0 q24 (Z0 q23 (Za 0 [(2, 2), (1, 3), (0, 1)] q22 (Z4 X.L) (Z4 []) ∧ Z0 q24 (C ∧ ∀ (i : Nat), i ≤ n → (∀ (j : Nat), j < i → (fun (i : Nat) => i < n) j) → (i = n → q2) ∧ (False → False) ∧ (False → False)) False) False) False) False) False) False) False) False) False) False) False) False) False) False) False) False) False) False) False) False) False) False) q25) (q4 ∧ Z0 q6 q25 q2))) (by kernel_rfl) ?_
 conv => zeta
 try simp only [Zh]
 try simp only [Zj]
 try simp only [Zi]
 try simp only [Zk]
 try simp only [Zl]
 try simp only [Zg]
 try simp only [Int.toNat_natCast, Nat.zero_add, true_and, and_true, Nat.le_refl]
 have e0 : Yu.mk t.fund t.index t.cap t.dust t.fee t.delay t.k0 t.k1 = t := rfl
 rw [e0]
 subst hX
 refine ⟨fun _ => trivial, fun hn => ⟨ht, ?_⟩⟩
 have hC := hC (by omega)
 cases hb : Yp H (WD t sd rs x y) with
 | true =>
  have hC := hC hb
  repeat' first
   | exact ht
   | exact hC
   | (intro h; cases h; done)
   | intro _
   | apply And.intro
   | trivial
   | rfl
   | omega
   | exact Nat.le_refl _
   | exact Zn fun j hj => absurd hj (Nat.not_lt_zero _)
 | false =>
  repeat' first
   | exact ht
   | (intro h; cases h; done)
   | intro _
   | apply And.intro
   | trivial
   | rfl
   | omega
end Go.Tk
end
section
namespace Go.Tk
open IntKind (i64 u8 u32 u64 wrap)
theorem Za4 {x : Z5} : Z7m ltH [x] := by simp [Z7m]
def Z7H : Yf := fun args h K => match args with
 | [.nslice ⟨b, 0, 70, 0, 0⟩ 70 _ _, _] => frA [b] h 20 args fun Bs a => match Bs, a with
  | [.rows 70 1 f], [.nslice ⟨0, 0, 70, 0, 0⟩ 70 1 _, .func (.func 61) [] []] => match f 0 with
   | [.bool ow, .int .i64 id, .int .i64 am, .arr .u8 32 ha, .int .i64 ex, .int .i64 st, .int .i64 fi, .arr .u8 32 se] => K (.ret (.tuple [])) ⟨h.next, (b, .rows 70 1 (Z4 [⟨ow, id, am, ha, ex, st, fi, se⟩])) :: YA h.bs b⟩
   | _ => False
  | _, _ => False
 | _ => False
theorem Za5 (args : List AV) (h : Z9) (K : KO) (hl : Z7H args h K) : Zm PP 60 args h K := by
 unfold Z7H at hl
 split at hl
 ·refine Spec.fsumm hl fun Bs a hlen hK0 => ?_
  split at hK0
  ·split at hK0
   ·rename_i f _ _ ow id am ha ex st fi se hf
    have hs : Xt [⟨ow, id, am, ha, ex, st, fi, se⟩] [⟨ow, id, am, ha, ex, st, fi, se⟩] 1 := ⟨rfl, by decide, by decide, .refl _, Za4, fun a ha b hb _ _ => by
     simp only [List.mem_cons, List.not_mem_nil, or_false] at ha hb
     rw [ha, hb]⟩
    exact ⟨_, _, _, _, _, ZbO (fun i hi => by
     have : i = 0 := by omega
     subst this; rw [hf]; rfl) hs, Nat.le_refl _, .ret _ _ rfl, .cons _ _ _ _ _ _ rfl (.rows _ _ _ (fun i _ => Xd _ i)) .nil, hK0⟩
   ·exact hK0.elim
  ·exact hK0.elim
 ·exact hl.elim
noncomputable def Zj3 : Zf := G0.withF 60 Z7H
theorem Zf2 : Zj3.Ok := Zf.withF_ok Zr Za5
theorem Zj4 (u : Unit)  :
  evF Zj3 40 7 [] ⟨0, []⟩ (Yd fun v => v = .bool true) := by
 refine @Eq.mpr _ (let q1 := [(0 : Int), 0, 0, 0, 0, 0, 0, 0, 0, 0, 0, 0, 0, 0, 0, 0, 0, 0, 0, 0, 0, 0, 0, 0, 0, 0, 0, 0, 0, 0, 0];
 let q2 := (2 : Int) :: q1;
 let q3 := q2 = q2;
 let q4 := (1 : Int) :: q1;
 let q5 := q4 = q4;
 let q6 := AV.bool true;
 let q7 := AV.arr u8 32 Zd;
 let q8 := [(600 : Int), 400];
 let q9 := q8 = q8;
 let q10 := (∀ (i : Nat), i < 1 → Yl (ZW 0 (fun (x : Nat) => []) (YB [q6, AV.int i64 0, AV.int i64 545, q7, AV.int i64 9, AV.int i64 1, AV.int i64 0, q7] 0 70) i) = true) ∧ q9 ∧ Zd = Zd ∧ q9 ∧ Zd = Zd ∧ q6 = q6;
 q3 ∧ q5 ∧ q3 ∧ q5 ∧ q3 ∧ q5 ∧ q3 ∧ q5 ∧ q3 ∧ q5 ∧ (Zd = Zd ∧ Zd = Zd ∧ q10) ∧ q10) (by kernel_rfl) ?_
 conv => zeta
 trivial
end Go.Tk
end
section
namespace Go.Tk
open IntKind (i64 u8 u32 u64 wrap)
def termTy : List Ty := [.arr .u8 32, .int .i64, .int .i64, .int .i64, .int .i64, .int .i64, .arr .u8 32, .arr .u8 32]
def actTy : List Ty := [.int .i64, .bool, .int .i64, .int .i64, .int .i64, .arr .u8 32, .int .i64, .int .i64, .bool, .int .i64]
theorem Z7I {a : AV} (h : Z2o true termTy a) : ∃ t : Yu, a = .agg t.c ∧ t.Ok ∧ t.fund.length = 32 := by
 cases h with | agg _ u h =>
 unfold termTy at h
 cases h with | cons _ a1 _ u h1 h =>
 cases h with | cons _ a2 _ u h2 h =>
 cases h with | cons _ a3 _ u h3 h =>
 cases h with | cons _ a4 _ u h4 h =>
 cases h with | cons _ a5 _ u h5 h =>
 cases h with | cons _ a6 _ u h6 h =>
 cases h with | cons _ a7 _ u h7 h =>
 cases h with | cons _ a8 _ u h8 h =>
 cases h; cases h1; cases h2; cases h3; cases h4; cases h5; cases h6; cases h7; cases h8
 rename_i x1 l1 w1 x2 w2 x3 w3 x4 w4 x5 w5 x6 w6 x7 l7 w7 x8 l8 w8
 exact ⟨⟨x1, x2, x3, x4, x5, x6, x7, x8⟩, rfl, ⟨l7, l8, Z2p l7 w7, Z2p l8 w8⟩, l1⟩
theorem ZcU {l : List AV} (h : Fits actTy l) : ∃ x : Ys, l = x.c ∧ x.Ok := by
 unfold actTy at h
 cases h with | cons _ a1 _ u h1 h =>
 cases h with | cons _ a2 _ u h2 h =>
 cases h with | cons _ a3 _ u h3 h =>
 cases h with | cons _ a4 _ u h4 h =>
 cases h with | cons _ a5 _ u h5 h =>
 cases h with | cons _ a6 _ u h6 h =>
 cases h with | cons _ a7 _ u h7 h =>
 cases h with | cons _ a8 _ u h8 h =>
 cases h with | cons _ a9 _ u h9 h =>
 cases h with | cons _ a10 _ u h10 h =>
 cases h; cases h1; cases h2; cases h3; cases h4; cases h5; cases h6; cases h7; cases h8; cases h9; cases h10
 rename_i x1 w1 x2 x3 w3 x4 w4 x5 w5 x6 l6 w6 x7 w7 x8 w8 x9 x10 w10
 exact ⟨⟨x1, x2, x3, x4, x5, x6, x7, x8, x9, x10⟩, rfl, ⟨l6, Z2p l6 w6⟩⟩
theorem Zf3 {n : Nat} {p : Nat → Ys → Prop} (h : ∀ i, i < n → ∃ a, p i a) : ∃ f : Nat → Ys, ∀ i, i < n → p i (f i) :=
 ⟨fun i => if hi : i < n then Classical.choose (h i hi) else Z6e, fun i hi => by
  simp only [hi, dite_true]
  exact Classical.choose_spec (h i hi)⟩
theorem Za6 {a : AV} (h : Z2o false [.rows 41 actTy] a) : ∃ (n : Nat) (A : List Ys), A.length = n ∧ (∀ m ∈ A, m.Ok) ∧ ∀ (E : Env) (r : Value), Ze E a r → Ze E (.vrows 41 n (Z0N A) n) r := by
 cases h with | one _ _ h =>
 cases h with | rows esz ts n f hm h =>
 obtain ⟨g, hg⟩ := Zf3 fun i hi => ZcU (h i hi)
 refine ⟨n, (List.range n).map g, by simp, fun m hm => ?_, fun E r hr => hr.rowsC fun i hi => ?_⟩
 ·obtain ⟨i, hi, rfl⟩ := List.mem_map.1 hm
  exact (hg i (List.mem_range.1 hi)).2
 ·unfold Z0N
  rw [(hg i hi).1, List.getD_eq_getElem?_getD, List.getElem?_map, List.getElem?_range hi]
  rfl
theorem fits_int {a : AV} (h : Z2o false [.int .i64] a) : ∃ n : Int, a = .int .i64 n := by
 cases h with | one _ _ h =>
 cases h
 exact ⟨_, rfl⟩
theorem Zf4 (args : List AV) (h : Z9) (K : AV → Prop) (hl : Zf0 args h K) : Zm PP 7 args h fun o h' => ∃ v, o = .ret v ∧ h' = h ∧ K v := by
 unfold Zf0 at hl
 split at hl
 ·exact Ya Zf2 rfl (Zj4 ()) (fun u hu => hu ▸ hl)
 ·exact hl.elim
end Go.Tk
end
section
namespace Go.Tk
open IntKind (i64 u8 u32 u64 wrap)
theorem ledgerplays_walk {us : List AV} (h : Z3D [(true, termTy), (false, [.int .i64]), (false, [.int .i64]), (false, [.int .i64]), (false, [.int .i64]), (false, [.rows 41 actTy])] us) : Zm PP 4 us ⟨0, []⟩ fun o h' => ∃ v, o = .ret v ∧ h' = ⟨0, []⟩ ∧ v = .bool true := by
 cases h with | cons _ _ a _ _ h1 h =>
 cases h with | cons _ _ b _ _ h2 h =>
 cases h with | cons _ _ c _ _ h3 h =>
 cases h with | cons _ _ d _ _ h4 h =>
 cases h with | cons _ _ e _ _ h5 h =>
 cases h with | cons _ _ f _ _ h6 h =>
 cases h
 obtain ⟨t, rfl, ht, hf⟩ := Z7I h1
 obtain ⟨sd, rfl⟩ := fits_int h2
 obtain ⟨rs, rfl⟩ := fits_int h3
 obtain ⟨x, rfl⟩ := fits_int h4
 obtain ⟨y, rfl⟩ := fits_int h5
 obtain ⟨n, A, hn, hA, hr⟩ := Za6 h6
 have hE : (Zh5 Zp (WD t sd rs x y) A n (Zh4 (WD t sd rs x y) A n)).Ok := Zf1 (ZcT Zf4) _ _ _
 have hv := Zke t sd rs x y A n Zp (WD t sd rs x y) (Zh4 (WD t sd rs x y) A n) rfl ht fun h60 hb => ⟨h60, hn, (ZdK ht (fun h hh => by cases hh)).1 hb, hf, hA⟩
 exact (Ya (h := ⟨0, []⟩) hE rfl hv (fun u hu => hu)).conv fun E r hr0 => hr0.head (fun _ hc => hc) fun _ hc => hc.head (fun _ hc => hc) fun _ hc => hc.head (fun _ hc => hc) fun _ hc => hc.head (fun _ hc => hc) fun _ hc => hc.head (fun _ hc => hc) fun _ hc => hc.head (fun _ hc => hr E _ hc) fun _ hc => hc
end Go.Tk
namespace Go.Proofs.YtellkjlbhaikeaaGreat.ledgerPlays
open Go.ChangeShapes Go.WideShapes Go.ChangeAt Go.RowKit
theorem own : ownKnob Tryz.prog.godebug = none := by kernel_rfl
theorem laidOut : laidOutB Tryz.prog = true := by kernel_rfl
theorem lifted (os : Os) (started : os.Started) (H : Type) (enc : TypeId × Value → H) :
  ReturnsInHanded {} Tryz.checked os 4 .any (Rows.ledgerPlaysSpec.pre6 enc Tryz.prog Tryz.f4 Rows.ledgerPlaysRow.domain false) (Rows.ledgerPlaysSpec.post enc Tryz.prog Tryz.f4 false true false false) :=
 Go.Tk.lifted_gen (C := Tryz.checked) (m := 8) (τs := [(true, Go.Tk.termTy), (false, [.int .i64]), (false, [.int .i64]), (false, [.int .i64]), (false, [.int .i64]), (false, [.rows 41 Go.Tk.actTy])]) own laidOut started (by kernel_rfl) Tryz.func4
  (ChangeSpec.witness6 (enc := enc) (C := Tryz.checked) false ⟨#[], #[.agg (Array.replicate 32 (.int .u8 0) ++ #[.int .i64 0, .int .i64 0, .int .i64 0, .int .i64 0, .int .i64 0] ++ Array.replicate 64 (.int .u8 0)), .int .i64 0, .int .i64 0, .int .i64 0, .int .i64 0, .slice none 0 0], []⟩ 8 (by kernel_rfl) (by kernel_rfl) (by kernel_rfl) (by kernel_rfl))
  rfl (tb := 4) rfl Tryz.underlying4 (by kernel_rfl) (by kernel_rfl) (fun ds h => by
   match ds, h with
   | [a, b, c, d, e, f], _ => rfl) fun us h => Go.Tk.ledgerplays_walk h
theorem Zh6 : Tryz.pinned.checked.prog.funcNamed Rows.ledgerPlaysRow.func = some 4 := by kernel_rfl
theorem closed : joinedFacts Tryz.pinned.checked.prog 4 Tryz.f4 Rows.ledgerPlaysSpec Rows.ledgerPlaysRow = true := by
 unfold joinedFacts
 repeat' with_reducible refine Go.Tk.and_mk ?_ ?_
 all_goals as_aux_lemma => kernel_rfl
theorem over : Rows.ledgerPlaysRow.holds Tryz.pinned (OpenSpec.ofChange Rows.ledgerPlaysSpec) :=
 OpenClaim.holds_of_wide 4 Tryz.f4 rfl rfl rfl rfl rfl rfl rfl ⟨rfl, rfl, rfl, rfl, rfl⟩ rfl rfl rfl rfl rfl Zh6 Tryz.func4 closed
  (of_decide_eq_true (by kernel_rfl)) (by unfold Func.isWrapper; first | (rw [if_pos (by decide +kernel)]; kernel_rfl) | (rw [if_neg (by decide +kernel)]; exact ⟨rfl, rfl⟩))
  (fun os started H enc _ => lifted os started H enc)
theorem proved : Rows.LedgerPlaysSaid := over
end Go.Proofs.YtellkjlbhaikeaaGreat.ledgerPlays
end
