/- H: part 5 of an engine (a symbolic evaluator, proved against the model) and of the walk by it. -/
import Derived.Test.YtbeiehggdcpdbaaGreatH4
set_option linter.unusedVariables false
set_option linter.unusedSimpArgs false
set_option maxRecDepth 100000
set_option maxHeartbeats 0
section
namespace Go.Tk
open IntKind (i64 u8 u32 u64 wrap)
def sg3 (a b c : Int) (w : Int) : Int := YC .u32 (YC .u32 (Z7G w (32 - a)) (Z7G w (32 - b))) (Z7G w (32 - c))
def rg3 (a b n : Int) (w : Int) : Int := YC .u32 (YC .u32 (Z7G w (32 - a)) (Z7G w (32 - b))) (ZA .u32 w n)
def Z85 (bl : List Int) (t : Nat) : Int := u32.wrap (u32.wrap (u32.wrap (ZM .u32 (u32.wrap (bl.getD (4 * t) 0)) 24 + ZM .u32 (u32.wrap (bl.getD (4 * t + 1) 0)) 16) + ZM .u32 (u32.wrap (bl.getD (4 * t + 2) 0)) 8) + u32.wrap (bl.getD (4 * t + 3) 0))
def Zct (m : List Int) (t : Nat) : Int := u32.wrap (u32.wrap (u32.wrap (rg3 17 19 10 (m.getD (t - 2) 0) + m.getD (t - 7) 0) + rg3 7 18 3 (m.getD (t - 15) 0)) + m.getD (t - 16) 0)
def W4 (bl : List Int) : Nat → List Int
 | 0 => List.replicate 64 0
 | t + 1 => (W4 bl t).set t (if t < 16 then Z85 bl t else Zct (W4 bl t) t)
theorem Z2Z (bl : List Int) : ∀ t, (W4 bl t).length = 64
 | 0 => rfl
 | t + 1 => by simp [W4, Z2Z bl t]
def prS (st bl m : List Int) (i : Nat) : St := ⟨146, [(6, .int .i64 i), (3, pt 1), (5, pt 3), (2, pt 0), (4, pt 2)], ⟨4, [(3, .flat [.arr .u32 64 m]), (2, .flat [.arr .u32 8 [0, 0, 0, 0, 0, 0, 0, 0]]), (1, .flat [.arr .u8 64 bl]), (0, .flat [.arr .u32 8 st])]⟩, []⟩
theorem Zkp (st bl m m' : List Int) (i : Nat) (Z1 Z2 : Prop) (hi : i ≤ 64) (hm : m.length = 64) (hm' : m' = m.set i (if i < 16 then Z85 bl i else Zct m i)) (h1 : i < 64 → Z1) (h2 : i = 64 → Z2) :
  ZF G0 20 138 0 0 (prS st bl m i) (rdM 0 0 9 (prS st bl m' (i + 1)) (prS st bl m i) (prS st bl m i) (prS st bl m i) Z1 Z2 False False) := by
 refine @Eq.mpr _ (let q1 := wrap i64 (4 * (↑i : Int));
 let q2 := 0 + Int.toNat q1;
 let q3 := wrap i64 (q1 + 1);
 let q4 := 0 + Int.toNat q3;
 let q5 := wrap i64 (q1 + 2);
 let q6 := 0 + Int.toNat q5;
 let q7 := wrap i64 (q1 + 3);
 let q8 := 0 + Int.toNat q7;
 let q9 := decide (0 ≤ (↑i : Int) ∧ (↑i : Int) < 64);
 let q10 := 0 + Int.toNat (↑i : Int);
 let q11 := decide (u32 = u32 ∧ q10 < 64 ∧ q10 < List.length m);
 let q12 := decide (wrap i64 ((↑i : Int) + 1) = (↑(i + 1) : Int));
 let q13 := [(0 : Int), 0, 0, 0, 0, 0, 0, 0];
 let q14 := q13 = q13;
 let q15 := q14 ∧ bl = bl ∧ st = st ∧ Z1;
 let q16 := wrap i64 ((↑i : Int) - 2);
 let q17 := 0 + Int.toNat q16;
 let q18 := wrap i64 ((↑i : Int) - 7);
 let q19 := 0 + Int.toNat q18;
 let q20 := decide (q19 < 64);
 let q21 := wrap i64 ((↑i : Int) - 15);
 let q22 := 0 + Int.toNat q21;
 let q23 := decide (q22 < 64);
 let q24 := wrap i64 ((↑i : Int) - 16);
 let q25 := 0 + Int.toNat q24;
 let q26 := decide (q25 < 64);
 let q27 := List.getD m q25 0;
 let q28 := decide (q27 = q27);
 let q29 := List.getD m q22 0;
 let q30 := List.getD m q19 0;
 let q31 := decide (q30 = q30);
 let q32 := List.getD m q17 0;
 Z0 (decide ((↑i : Int) < 64))
 (Z0 (decide ((↑i : Int) < 16)) (Z0 (decide (0 ≤ q1 ∧ q1 < 64)) (Z0 (decide (q2 < 64)) (Z0 (decide (0 ≤ q3 ∧ q3 < 64)) (Z0 (decide (q4 < 64)) (Z0 (decide (0 ≤ q5 ∧ q5 < 64)) (Z0 (decide (q6 < 64)) (Z0 (decide (0 ≤ q7 ∧ q7 < 64)) (Z0 (decide (q8 < 64)) (Z0 q9 (Z0 q11 (Z0 q12 (List.set m q10 (wrap u32 (wrap u32 (wrap u32 (ZM u32 (wrap u32 (List.getD bl q2 0)) 24 + ZM u32 (wrap u32 (List.getD bl q4 0)) 16) + ZM u32 (wrap u32 (List.getD bl q6 0)) 8) + wrap u32 (List.getD bl q8 0))) = m' ∧ q15) False) False) False) False) False) False) False) False) False) False) False)
 (Z0 (decide (0 ≤ q16 ∧ q16 < 64))
 (Z0 (decide (q17 < 64)) (Z0 (decide (0 ≤ q18 ∧ q18 < 64)) (Z0 q20 (Z0 (decide (0 ≤ q21 ∧ q21 < 64)) (Z0 q23 (Z0 (decide (0 ≤ q24 ∧ q24 < 64)) (Z0 q26 (Z0 q26 (Z0 q28 (Z0 q23 (Z0 (decide (q29 = q29)) (Z0 q20 (Z0 q31 (Z0 q26 (Z0 q28 (Z0 q20 (Z0 q31 (Z0 q9 (Z0 q11 (Z0 q12 (List.set m q10 (wrap u32 (wrap u32 (wrap u32 (YC u32 (YC u32 (bOr u32 (ZM u32 q32 15) (ZA u32 q32 17)) (bOr u32 (ZM u32 q32 13) (ZA u32 q32 19))) (ZA u32 q32 10) + q30) + YC u32 (YC u32 (bOr u32 (ZM u32 q29 25) (ZA u32 q29 7)) (bOr u32 (ZM u32 q29 14) (ZA u32 q29 18))) (ZA u32 q29 3)) + q27)) = m' ∧ q15) False) False) False) False) False) False) False) False) False) False) False) False) False) False) False) False) False) False) False) False) False))
 (Z0 (decide ((↑i : Int) = (↑i : Int))) (m = m ∧ q14 ∧ bl = bl ∧ st = st ∧ Z2) False)) (by kernel_rfl) ?_
 conv => zeta
 try simp only [Zg]
 try simp only [Zl]
 try simp only [Zh]
 try simp only [Zm]
 try simp only [Zn]
 try simp only [Zf]
 try simp only [Int.toNat_natCast, Nat.zero_add, true_and, and_true, Nat.le_refl]
 have hw : i64.wrap ((i : Int) + 1) = ((i + 1 : Nat) : Int) := w64 (by omega)
 refine ⟨fun hlt => ⟨fun h16 => ?_, fun h16 => ?_⟩, fun hge => h2 (by omega)⟩
 ·have e0 : i64.wrap (4 * (i : Int)) = ((4 * i : Nat) : Int) := by rw [w64 (by omega)]; omega
  have e1 : i64.wrap (((4 * i : Nat) : Int) + 1) = ((4 * i + 1 : Nat) : Int) := by rw [w64 (by omega)]; omega
  have e2 : i64.wrap (((4 * i : Nat) : Int) + 2) = ((4 * i + 2 : Nat) : Int) := by rw [w64 (by omega)]; omega
  have e3 : i64.wrap (((4 * i : Nat) : Int) + 3) = ((4 * i + 3 : Nat) : Int) := by rw [w64 (by omega)]; omega
  rw [if_pos (by omega)] at hm'
  simp only [e0, e1, e2, e3, hw, Int.toNat_natCast]
  repeat' (first | (refine And.intro ?_ ?_) | intro _)
  all_goals first | omega | exact hm'.symm | exact h1 (by omega) | trivial
 ·have e0 : i64.wrap ((i : Int) - 2) = ((i - 2 : Nat) : Int) := by rw [w64 (by omega)]; omega
  have e1 : i64.wrap ((i : Int) - 7) = ((i - 7 : Nat) : Int) := by rw [w64 (by omega)]; omega
  have e2 : i64.wrap ((i : Int) - 15) = ((i - 15 : Nat) : Int) := by rw [w64 (by omega)]; omega
  have e3 : i64.wrap ((i : Int) - 16) = ((i - 16 : Nat) : Int) := by rw [w64 (by omega)]; omega
  rw [if_neg (by omega)] at hm'
  simp only [e0, e1, e2, e3, hw, Int.toNat_natCast]
  repeat' (first | (refine And.intro ?_ ?_) | intro _)
  all_goals first | omega | exact hm'.symm | exact h1 (by omega) | trivial
noncomputable def Zhd (st bl : List Int) : Zd := G0.withL 138 0 (goM 0 (prS st bl (List.replicate 64 0) 0) True (Ym 0 64 9 (fun i => i < 64) (fun i => i = 64) (fun _ => False) (fun _ => False) (fun i => prS st bl (W4 bl i) i) (fun i => prS st bl (W4 bl i) i) (fun i => prS st bl (W4 bl i) i)))
theorem ZeK (st bl : List Int) : (Zhd st bl).Ok := by
 unfold Zhd
 refine Zd.withGoM (N := 20) (S := fun i => prS st bl (W4 bl i) i) Zu (by kernel_rfl) fun hC => ⟨rfl, fun i hi hgo => ?_⟩
 exact Zkp st bl (W4 bl i) (W4 bl (i + 1)) i _ _ hi (Z2Z bl i) rfl (fun h => ⟨h, h⟩) (fun h => h)
noncomputable def E54 (M P : Int → Int → Int → Int) : Zd := (G0.withP 176 (Z1J M)).withP 175 (Z1J P)
theorem Zhe : (E54 Xs Xm).Ok := Zd.withP_ok (Zd.withP_ok Zu (Z2Y fun a b c => by unfold Xs; exact .ev (ZeI a b c) (Zhb a b c _ rfl))) (Z2Y fun a b c => by unfold Xm; exact .ev (ZeJ a b c) (Zhc a b c _ rfl))
def Z1m (M P : Int → Int → Int → Int) (k m : Int) (x : List Int) : List Int :=
 let one := u32.wrap (u32.wrap (u32.wrap (u32.wrap (x.getD 7 0 + sg3 6 11 25 (x.getD 4 0)) + P (x.getD 4 0) (x.getD 5 0) (x.getD 6 0)) + k) + m)
 [u32.wrap (one + u32.wrap (sg3 2 13 22 (x.getD 0 0) + M (x.getD 0 0) (x.getD 1 0) (x.getD 2 0))), x.getD 0 0, x.getD 1 0, x.getD 2 0, u32.wrap (x.getD 3 0 + one), x.getD 4 0, x.getD 5 0, x.getD 6 0]
def UB (M P : Int → Int → Int → Int) (m st : List Int) : Nat → List Int
 | 0 => st
 | t + 1 => Z1m M P (Vh.getD t 0) (m.getD t 0) (UB M P m st t)
theorem Zat (M P : Int → Int → Int → Int) (m st : List Int) (t : Nat) : UB M P m st (t + 1) = Z1m M P (Vh.getD t 0) (m.getD t 0) (UB M P m st t) := rfl
theorem Zau (M P : Int → Int → Int → Int) (m st : List Int) : UB M P m st 0 = st := rfl
theorem Z0l {M P : Int → Int → Int → Int} {m st : List Int} (h : st.length = 8) : ∀ t, (UB M P m st t).length = 8
 | 0 => h
 | _ + 1 => rfl
def prT (st k m x : List Int) (i : Nat) : St := ⟨146, [(9, .int .i64 i), (8, pt 6), (7, pt 5), (5, pt 3), (2, pt 0), (4, pt 2)], ⟨7, [(6, .flat [.arr .u32 8 x]), (5, .flat [.arr .u32 64 k]), (3, .flat [.arr .u32 64 m]), (2, .flat [.arr .u32 8 [0, 0, 0, 0, 0, 0, 0, 0]]), (0, .flat [.arr .u32 8 st])]⟩, []⟩
def prU (st x : List Int) : St := ⟨146, [(8, pt 6), (2, pt 0), (4, pt 2)], ⟨7, [(6, .flat [.arr .u32 8 x]), (2, .flat [.arr .u32 8 [0, 0, 0, 0, 0, 0, 0, 0]]), (0, .flat [.arr .u32 8 st])]⟩, []⟩
theorem Zkq (M P : Int → Int → Int → Int) (st k m x' : List Int) (x0 x1 x2 x3 x4 x5 x6 x7 : Int) (i : Nat) (Z1 Z2 : Prop) (hi : i ≤ 64) (hx : x' = Z1m M P (k.getD i 0) (m.getD i 0) [x0, x1, x2, x3, x4, x5, x6, x7]) (h1 : i < 64 → Z1) (h2 : i = 64 → Z2) :
  ZF (E54 M P) 20 138 2 0 (prT st k m [x0, x1, x2, x3, x4, x5, x6, x7] i) (rdM 0 2 9 (prT st k m x' (i + 1)) (prU st [x0, x1, x2, x3, x4, x5, x6, x7]) (prU st [x0, x1, x2, x3, x4, x5, x6, x7]) (prU st [x0, x1, x2, x3, x4, x5, x6, x7]) Z1 Z2 False False) := by
 refine @Eq.mpr _ (let q1 := decide (0 ≤ (↑i : Int) ∧ (↑i : Int) < 64);
 let q2 := 0 + Int.toNat (↑i : Int);
 let q3 := decide (q2 < 64);
 let q4 := decide (q2 < 64);
 let q5 := List.getD m q2 0;
 let q6 := List.getD k q2 0;
 let q7 := wrap u32 (wrap u32 (wrap u32 (wrap u32 (x7 + YC u32 (YC u32 (bOr u32 (ZM u32 x4 26) (ZA u32 x4 6)) (bOr u32 (ZM u32 x4 21) (ZA u32 x4 11))) (bOr u32 (ZM u32 x4 7) (ZA u32 x4 25))) + P x4 x5 x6) + q6) + q5);
 let q8 := [(0 : Int), 0, 0, 0, 0, 0, 0, 0];
 let q9 := q8 = q8;
 let q10 := [x0, x1, x2, x3, x4, x5, x6, x7];
 Z0 (decide ((↑i : Int) < 64)) (Z0 q1 (Z0 q3 (Z0 q1 (Z0 q4 (Z0 q4 (Z0 (decide (q5 = q5)) (Z0 q3 (Z0 (decide (q6 = q6)) (Z0 (decide (x6 = x6)) (Z0 (decide (x5 = x5)) (Z0 (decide (x4 = x4)) (Z0 (decide (x7 = x7)) (Z0 (decide (x2 = x2)) (Z0 (decide (x1 = x1)) (Z0 (decide (x0 = x0)) (Z0 (decide (wrap i64 ((↑i : Int) + 1) = (↑(i + 1) : Int))) ([wrap u32 (q7 + wrap u32 (YC u32 (YC u32 (bOr u32 (ZM u32 x0 30) (ZA u32 x0 2)) (bOr u32 (ZM u32 x0 19) (ZA u32 x0 13))) (bOr u32 (ZM u32 x0 10) (ZA u32 x0 22)) + M x0 x1 x2)), x0, x1, x2, wrap u32 (x3 + q7), x4, x5, x6] = x' ∧ k = k ∧ m = m ∧ q9 ∧ st = st ∧ Z1) False) False) False) False) False) False) False) False) False) False) False) False) False) False) False) False) (q10 = q10 ∧ q9 ∧ st = st ∧ Z2)) (by kernel_rfl) ?_
 conv => zeta
 try simp only [Zg]
 try simp only [Zl]
 try simp only [Zh]
 try simp only [Zm]
 try simp only [Zn]
 try simp only [Zf]
 try simp only [Int.toNat_natCast, Nat.zero_add, true_and, and_true, Nat.le_refl]
 have hw : i64.wrap ((i : Int) + 1) = ((i + 1 : Nat) : Int) := w64 (by omega)
 refine ⟨fun hlt => ?_, fun hge => h2 (by omega)⟩
 rw [hw]
 repeat' (first | (refine And.intro ?_ ?_) | intro _)
 all_goals first | omega | exact hx.symm | exact h1 (by omega) | trivial
def prV (st x : List Int) (i : Nat) : St := ⟨146, [(12, .int .i64 i), (8, pt 6), (2, pt 0), (4, pt 2)], ⟨7, [(6, .flat [.arr .u32 8 x]), (2, .flat [.arr .u32 8 [0, 0, 0, 0, 0, 0, 0, 0]]), (0, .flat [.arr .u32 8 st])]⟩, []⟩
def Vk (st x : List Int) : Nat → List Int
 | 0 => x
 | i + 1 => (Vk st x i).set i (u32.wrap ((Vk st x i).getD i 0 + st.getD i 0))
theorem Z30 {st x : List Int} (h : x.length = 8) : ∀ i, (Vk st x i).length = 8
 | 0 => h
 | i + 1 => by simp [Vk, Z30 h i]
theorem Zkr (st x x' : List Int) (i : Nat) (Z1 Z2 : Prop) (hi : i ≤ 8) (hl : x.length = 8) (hs : st.length = 8) (hx : x' = x.set i (u32.wrap (x.getD i 0 + st.getD i 0))) (h1 : i < 8 → Z1) (h2 : i = 8 → Z2) :
  ZF G0 20 138 4 0 (prV st x i) (rdM 0 4 9 (prV st x' (i + 1)) (prU st x) (prU st x) (prU st x) Z1 Z2 False False) := by
 refine @Eq.mpr _ (let q1 := decide (0 ≤ (↑i : Int) ∧ (↑i : Int) < 8);
 let q2 := 0 + Int.toNat (↑i : Int);
 let q3 := [(0 : Int), 0, 0, 0, 0, 0, 0, 0];
 let q4 := q3 = q3;
 Z0 (decide ((↑i : Int) < 8)) (Z0 q1 (Z0 (decide (q2 < 8)) (Z0 q1 (Z0 (decide (q2 < 8)) (Z0 q1 (Z0 (decide (u32 = u32 ∧ q2 < 8 ∧ q2 < List.length x)) (Z0 (decide (wrap i64 ((↑i : Int) + 1) = (↑(i + 1) : Int))) (List.set x q2 (wrap u32 (List.getD x q2 0 + List.getD st q2 0)) = x' ∧ q4 ∧ st = st ∧ Z1) False) False) False) False) False) False) False) (x = x ∧ q4 ∧ st = st ∧ Z2)) (by kernel_rfl) ?_
 conv => zeta
 try simp only [Zg]
 try simp only [Zl]
 try simp only [Zh]
 try simp only [Zm]
 try simp only [Zn]
 try simp only [Zf]
 try simp only [Int.toNat_natCast, Nat.zero_add, true_and, and_true, Nat.le_refl]
 have hw : i64.wrap ((i : Int) + 1) = ((i + 1 : Nat) : Int) := w64 (by omega)
 refine ⟨fun hlt => ?_, fun hge => h2 (by omega)⟩
 rw [hw]
 repeat' (first | (refine And.intro ?_ ?_) | intro _)
 all_goals first | omega | exact hx.symm | exact h1 (by omega) | trivial
def Zhf (M P : Int → Int → Int → Int) (st m : List Int) : Nat → St → KE → Prop := goM 0 (prT st Vh m st 0) (st.length = 8) (Ym 2 64 9 (fun i => i < 64) (fun i => i = 64) (fun _ => False) (fun _ => False) (fun i => prU st (UB M P m st i)) (fun i => prU st (UB M P m st i)) (fun i => prU st (UB M P m st i)))
theorem ZeL (st m : List Int) : ((E54 Xs Xm).withL 138 2 (Zhf Xs Xm st m)).Ok := by
 unfold Zhf
 refine Zd.withGoM (N := 20) (S := fun i => prT st Vh m (UB Xs Xm m st i) i) Zhe (by kernel_rfl) fun hC => ⟨rfl, fun i hi hgo => ?_⟩
 obtain ⟨x0, x1, x2, x3, x4, x5, x6, x7, e⟩ := eight _ (Z0l (M := Xs) (P := Xm) (m := m) hC i)
 show ZF _ 20 138 2 0 (prT st Vh m (UB Xs Xm m st i) i) (rdM 0 2 9 (prT st Vh m (Z1m Xs Xm (Vh.getD i 0) (m.getD i 0) (UB Xs Xm m st i)) (i + 1)) _ _ _ _ _ _ _)
 rw [e]
 exact Zkq Xs Xm st Vh m _ x0 x1 x2 x3 x4 x5 x6 x7 i _ _ hi rfl (fun h => ⟨h, h⟩) (fun h => h)
def Zhg (st x : List Int) : Nat → St → KE → Prop := goM 0 (prV st x 0) (st.length = 8 ∧ x.length = 8) (Ym 4 8 9 (fun i => i < 8) (fun i => i = 8) (fun _ => False) (fun _ => False) (fun i => prU st (Vk st x i)) (fun i => prU st (Vk st x i)) (fun i => prU st (Vk st x i)))
theorem ZeM (st x : List Int) : (G0.withL 138 4 (Zhg st x)).Ok := by
 unfold Zhg
 refine Zd.withGoM (N := 20) (S := fun i => prV st (Vk st x i) i) Zu (by kernel_rfl) fun hC => ⟨rfl, fun i hi hgo => ?_⟩
 exact Zkr st (Vk st x i) (Vk st x (i + 1)) i _ _ hi (Z30 hC.2 i) hC.1 rfl (fun h => ⟨h, h⟩) (fun h => h)
noncomputable def Zhh (M P : Int → Int → Int → Int) (st bl m x : List Int) : Zd := ((Zhd st bl).withL 138 2 (Zhf M P st m)).withL 138 4 (Zhg st x)
theorem ZeN (st bl m x : List Int) : (Zhh Xs Xm st bl m x).Ok := by
 unfold Zhh
 exact Zd.withL_join (H := G0) (Zd.withL_join (H := E54 Xs Xm) (ZeK st bl) rfl (ZeL st m)) rfl (ZeM st x)
@[irreducible] def XM (st bl : List Int) : List Int := Vk st (UB Xs Xm (W4 bl 64) st 64) 8
attribute [irreducible] W4 UB Vk
theorem Zks (M P : Int → Int → Int → Int) (st bl m x r : List Int) (hst : st.length = 8) (hm : m = W4 bl 64) (hx : x = UB M P m st 64) (hr : r = Vk st x 8) :
  evF (Zhh M P st bl m x) 20 138 [.agg [.arr .u32 8 st], .agg [.arr .u8 64 bl]] ⟨0, []⟩ (Yq 0 [] (.agg [.arr .u32 8 r]) 0 []) := by
 refine @Eq.mpr _ ((0 : Int) :: (0 : Int) :: (0 : Int) :: (0 : Int) :: (0 : Int) :: (0 : Int) :: (0 : Int) :: (0 : Int) :: (0 : Int) :: (0 : Int) :: (0 : Int) :: (0 : Int) :: (0 : Int) :: (0 : Int) :: (0 : Int) :: (0 : Int) :: (0 : Int) :: (0 : Int) :: (0 : Int) :: (0 : Int) :: (0 : Int) :: (0 : Int) :: (0 : Int) :: (0 : Int) :: (0 : Int) :: (0 : Int) :: (0 : Int) :: (0 : Int) :: (0 : Int) :: (0 : Int) :: (0 : Int) :: (0 : Int) :: Z5 = (0 : Int) :: (0 : Int) :: (0 : Int) :: (0 : Int) :: (0 : Int) :: (0 : Int) :: (0 : Int) :: (0 : Int) :: (0 : Int) :: (0 : Int) :: (0 : Int) :: (0 : Int) :: (0 : Int) :: (0 : Int) :: (0 : Int) :: (0 : Int) :: (0 : Int) :: (0 : Int) :: (0 : Int) :: (0 : Int) :: (0 : Int) :: (0 : Int) :: (0 : Int) :: (0 : Int) :: (0 : Int) :: (0 : Int) :: (0 : Int) :: (0 : Int) :: (0 : Int) :: (0 : Int) :: (0 : Int) :: (0 : Int) :: Z5 ∧
 [(0 : Int), (0 : Int), (0 : Int), (0 : Int), (0 : Int), (0 : Int), (0 : Int), (0 : Int)] = [(0 : Int), (0 : Int), (0 : Int), (0 : Int), (0 : Int), (0 : Int), (0 : Int), (0 : Int)] ∧
 bl = bl ∧
 st = st ∧
 True ∧
 ∀ (i : Nat),
 i ≤ (64 : Nat) →
 (∀ (j : Nat), j < i → (fun (i : Nat) => i < (64 : Nat)) j) →
 (i = (64 : Nat) →
 st = st ∧
 [(1116352408 : Int), (1899447441 : Int), (3049323471 : Int), (3921009573 : Int), (961987163 : Int), (1508970993 : Int), (2453635748 : Int), (2870763221 : Int), (3624381080 : Int), (310598401 : Int), (607225278 : Int), (1426881987 : Int), (1925078388 : Int), (2162078206 : Int), (2614888103 : Int), (3248222580 : Int), (3835390401 : Int), (4022224774 : Int), (264347078 : Int), (604807628 : Int), (770255983 : Int), (1249150122 : Int), (1555081692 : Int), (1996064986 : Int), (2554220882 : Int), (2821834349 : Int), (2952996808 : Int), (3210313671 : Int), (3336571891 : Int), (3584528711 : Int), (113926993 : Int), (338241895 : Int), (666307205 : Int), (773529912 : Int), (1294757372 : Int), (1396182291 : Int), (1695183700 : Int), (1986661051 : Int), (2177026350 : Int), (2456956037 : Int), (2730485921 : Int), (2820302411 : Int), (3259730800 : Int), (3345764771 : Int), (3516065817 : Int), (3600352804 : Int), (4094571909 : Int), (275423344 : Int), (430227734 : Int), (506948616 : Int),
 (659060556 : Int), (883997877 : Int), (958139571 : Int), (1322822218 : Int), (1537002063 : Int), (1747873779 : Int), (1955562222 : Int), (2024104815 : Int), (2227730452 : Int), (2361852424 : Int), (2428436474 : Int), (2756734187 : Int), (3204031479 : Int), (3329325298 : Int)] =
 Vh ∧
 W4 bl i = m ∧
 [(0 : Int), (0 : Int), (0 : Int), (0 : Int), (0 : Int), (0 : Int), (0 : Int), (0 : Int)] = [(0 : Int), (0 : Int), (0 : Int), (0 : Int), (0 : Int), (0 : Int), (0 : Int), (0 : Int)] ∧ st = st ∧ List.length st = (8 : Nat) ∧ ∀ (i : Nat), i ≤ (64 : Nat) → (∀ (j : Nat), j < i → (fun (i : Nat) => i < (64 : Nat)) j) → (i = (64 : Nat) → UB M P m st i = x ∧ [(0 : Int), (0 : Int), (0 : Int), (0 : Int), (0 : Int), (0 : Int), (0 : Int), (0 : Int)] = [(0 : Int), (0 : Int), (0 : Int), (0 : Int), (0 : Int), (0 : Int), (0 : Int), (0 : Int)] ∧ st = st ∧ (List.length st = (8 : Nat) ∧ List.length x = (8 : Nat)) ∧ ∀ (i : Nat), i ≤ (8 : Nat) → (∀ (j : Nat), j < i → (fun (i : Nat) => i < (8 : Nat)) j) → (i = (8 : Nat) → Vk st x i = r ∧ True) ∧ (False → [(0 : Int), (0 : Int), (0 : Int), (0 : Int), (0 : Int), (0 : Int), (0 : Int), (0 : Int)] = r ∧ True) ∧ (False → False)) ∧ (False → [(0 : Int), (0 : Int), (0 : Int), (0 : Int), (0 : Int), (0 : Int), (0 : Int), (0 : Int)] = r ∧ True) ∧ (False → False)) ∧
 (False → [(0 : Int), (0 : Int), (0 : Int), (0 : Int), (0 : Int), (0 : Int), (0 : Int), (0 : Int)] = r ∧ True) ∧ (False → False)) (by kernel_rfl) ?_
 try simp only [Zg]
 try simp only [Zl]
 try simp only [Zh]
 try simp only [Zm]
 try simp only [Zn]
 try simp only [Zf]
 try simp only [Int.toNat_natCast, Nat.zero_add, true_and, and_true, Nat.le_refl]
 subst hm
 have hl : x.length = 8 := by rw [hx]; exact Z0l hst _
 exact fun i _ _ => ⟨fun he => ⟨by kernel_rfl, by rw [he], hst, fun j _ _ => ⟨fun hj => ⟨by rw [hj, hx], ⟨hst, hl⟩, fun q _ _ => ⟨fun hq => by rw [hq, hr], fun h => h.elim, fun h => h⟩⟩, fun h => h.elim, fun h => h⟩⟩, fun h => h.elim, fun h => h⟩
theorem Z6s (st bl : List Int) (h : st.length = 8) : ZB PP 138 [.agg [.arr .u32 8 st], .agg [.arr .u8 64 bl]] (.agg [.arr .u32 8 (XM st bl)]) 0 [] := by
 unfold XM
 exact .ev (ZeN st bl _ _) (Zks Xs Xm st bl _ _ _ h rfl rfl rfl)
theorem Z5i {st bl : List Int} (h : st.length = 8) : (XM st bl).length = 8 := by unfold XM; exact Z30 (Z0l h _) _
end Go.Tk
end
section
namespace Go.Tk
open IntKind (i64 u8 u32 u64 wrap)
def ZeO (n i : Int) : Int := u8.wrap (Int.tmod (ZA .u64 (u64.wrap (u64.wrap n * 8)) (u64.wrap (i64.wrap (56 - i64.wrap (8 * i))))) 256)
def XP (n : Int) : Nat → List Int
 | 0 => []
 | i + 1 => XP n i ++ [ZeO n i]
theorem Z31 (n : Int) : ∀ i, (XP n i).length = i
 | 0 => rfl
 | i + 1 => by rw [XP, List.length_append, Z31 n i]; rfl
def paS (bs ys : List Int) (n L i : Nat) : St := ⟨39, [(5, .int .i64 i), (4, .nslice ⟨3, 0, 0, 0, 0⟩ 1 L L), (0, .vints .u8 bs n)], ⟨4, [(3, .ints .u8 ys)]⟩, []⟩
theorem Zj1 (bs ys zs : List Int) (n L L' i : Nat) (Z1 Z2 : Prop) (hi : i ≤ 8) (hL : ys.length = L) (hb : L < 10000000000000) (hz : zs = ys ++ [ZeO n i]) (hL' : L' = zs.length) (h1 : i < 8 → Z1) (h2 : i = 8 → Z2) :
  ZF G0 20 137 0 0 (paS bs ys n L i) (rdM 0 0 9 (paS bs zs n L' (i + 1)) (paS bs ys n L i) (paS bs ys n L i) (paS bs ys n L i) Z1 Z2 False False) := by
 refine @Eq.mpr _ (let q1 := wrap u64 (wrap i64 (56 - wrap i64 (8 * (↑i : Int))));
 let q2 := ys ++ [wrap u8 (Int.tmod (ZA u64 (wrap u64 (wrap u64 (↑n : Int) * 8)) q1) 256)];
 let q3 := List.length q2;
 let q4 := decide (n = n);
 Z0 (decide ((↑i : Int) < 8)) (Z0 (decide (0 ≤ q1)) (Z0 (decide (u8 = u8 ∧ List.length ys = L)) (Z0 (decide (q3 * 1 ≤ 140737488355328)) (Z0 (decide (wrap i64 ((↑i : Int) + 1) = (↑(i + 1) : Int))) (Z0 (decide (q3 = L')) (Z0 (decide (L' ≤ q3)) (bs = bs ∧ Z0 q4 (q2 = zs ∧ Z1) False) False) False) False) False) False) False) (Z0 (decide ((↑i : Int) = (↑i : Int))) (Z0 (decide (L = L)) (Z0 (decide (L ≤ L)) (bs = bs ∧ Z0 q4 (ys = ys ∧ Z2) False) False) False) False)) (by kernel_rfl) ?_
 conv => zeta
 try simp only [Zg]
 try simp only [Zl]
 try simp only [Zh]
 try simp only [Zm]
 try simp only [Zn]
 try simp only [Zf]
 try simp only [Int.toNat_natCast, Nat.zero_add, true_and, and_true, Nat.le_refl]
 have hw : i64.wrap ((i : Int) + 1) = ((i + 1 : Nat) : Int) := w64 (by omega)
 refine ⟨fun hlt => ?_, fun hge => h2 (by omega)⟩
 have hz' : zs.length = L + 1 := by rw [hz, List.length_append, hL]; rfl
 have h0 : 0 ≤ u64.wrap (i64.wrap (56 - i64.wrap (8 * (i : Int)))) := by
  unfold wrap
  simp [IntKind.bits, IntKind.signed]
  omega
 simp only [List.length_append, List.length_cons, List.length_nil]
 rw [hw]
 repeat' (first | (refine And.intro ?_ ?_) | intro _)
 all_goals first | exact h0 | omega | exact hz.symm | exact h1 (by omega) | trivial
noncomputable def Zhi (bs y : List Int) (n : Nat) : Zd := G0.withL 137 0 (goM 0 (paS bs (y ++ XP n 0) n (y ++ XP n 0).length 0) (y.length ≤ 1000000000000) (Ym 0 8 9 (fun i => i < 8) (fun i => i = 8) (fun _ => False) (fun _ => False) (fun i => paS bs (y ++ XP n i) n (y ++ XP n i).length i) (fun i => paS bs (y ++ XP n i) n (y ++ XP n i).length i) (fun i => paS bs (y ++ XP n i) n (y ++ XP n i).length i)))
theorem ZeP (bs y : List Int) (n : Nat) : (Zhi bs y n).Ok := by
 unfold Zhi
 refine Zd.withGoM (N := 20) (S := fun i => paS bs (y ++ XP n i) n (y ++ XP n i).length i) Zu (by kernel_rfl) fun hC => ⟨rfl, fun i hi hgo => ?_⟩
 have hl : (y ++ XP n i).length = y.length + i := by rw [List.length_append, Z31]
 exact Zj1 bs (y ++ XP n i) (y ++ XP n (i + 1)) n _ _ i _ _ hi rfl (by omega) (by rw [XP, List.append_assoc]) rfl (fun h => ⟨h, h⟩) (fun h => h)
def Z1w (n : Nat) : List Int := List.replicate (Int.tmod (i64.wrap (128 - Int.tmod (i64.wrap ((n : Int) + 9)) 64)) 64).toNat 0
@[irreducible] def UC (bs : List Int) : List Int := (bs ++ [128] ++ Z1w bs.length) ++ XP bs.length 8
theorem ZeQ (n : Nat) (h : n ≤ 100000000000) : Int.tmod (i64.wrap (128 - Int.tmod (i64.wrap ((n : Int) + 9)) 64)) 64 = (128 - ((n : Int) + 9) % 64) % 64 := by
 have e1 : i64.wrap ((n : Int) + 9) = (n : Int) + 9 := w64 (by omega)
 have e2 : Int.tmod ((n : Int) + 9) 64 = ((n : Int) + 9) % 64 := tm (by omega)
 have e3 : i64.wrap (128 - ((n : Int) + 9) % 64) = 128 - ((n : Int) + 9) % 64 := w64 (by omega)
 rw [e1, e2, e3, tm (by omega)]
theorem Zcu (n : Nat) (h : n ≤ 100000000000) : (Z1w n).length ≤ 64 := by
 unfold Z1w
 rw [ZeQ n h, List.length_replicate]
 omega
theorem Zj2 (bs y r : List Int) (n L : Nat) (hn : bs.length = n) (hb : n ≤ 100000000000) (hy : y = bs ++ [128] ++ Z1w n) (hr : r = y ++ XP n 8) (hL : L = r.length) :
  evF (Zhi bs y n) 20 137 [.vints .u8 bs n] ⟨0, []⟩ (Yc 0 (.ret (.nslice ⟨0, 0, 0, 0, 0⟩ 1 L L)) 1 [(0, .ints .u8 r)]) := by
 refine @Eq.mpr _ (let q1 := [] ++ List.take n bs;
 let q2 := List.length q1;
 let q3 := q1 ++ [(128 : Int)];
 let q4 := List.length q3;
 let q5 := Int.tmod (wrap i64 (128 - Int.tmod (wrap i64 (↑n + 9)) 64)) 64;
 let q6 := Int.toNat q5;
 let q7 := q3 ++ List.replicate q6 0;
 let q8 := List.length q7;
 let q9 := y ++ XP (↑n) 0;
 let q10 := List.length q9;
 Z0 (decide (q2 * 1 ≤ 140737488355328))
 (Z0 (decide (u8 = u8 ∧ q2 = q2))
 (Z0 (decide (q4 * 1 ≤ 140737488355328))
 (Z0 (decide (u8 = u8 ∧ q4 = q4))
 (Z0 (decide ((0 : Int) = 0 ∧ 0 ≤ q5 ∧ (q4 + q6) * 1 ≤ 140737488355328))
 (Z0 (decide (q8 = q10))
 (Z0 (decide (q10 ≤ q8))
 (bs = bs ∧
 Z0 (decide (n = n))
 (q7 = q9 ∧
 List.length y ≤ 1000000000000 ∧
 ∀ (i : Nat),
 let q21 := y ++ XP (↑n) i;
 let q22 := List.length q21;
 i ≤ 8 → (∀ (j : Nat), j < i → (fun (i : Nat) => i < 8) j) → (i = 8 → Z0 (decide (q22 = L)) (Z0 (decide (L ≤ q22)) (q21 = r ∧ True) False) False) ∧ (False → False) ∧ (False → False))
 False)
 False)
 False)
 False)
 False)
 False)
 False)
 False) (by kernel_rfl) ?_
 conv => zeta
 try simp only [Zg]
 try simp only [Zl]
 try simp only [Zh]
 try simp only [Zm]
 try simp only [Zn]
 try simp only [Zf]
 try simp only [Int.toNat_natCast, Nat.zero_add, true_and, and_true, Nat.le_refl]
 have ht : List.take n bs = bs := by rw [← hn]; exact List.take_length
 have hz := Zcu n hb
 have hx := ZeQ n hb
 have e0 : [] ++ List.take n bs ++ [128] ++ List.replicate (Int.tmod (i64.wrap (128 - Int.tmod (i64.wrap ((n : Int) + 9)) 64)) 64).toNat 0 = y ++ XP n 0 := by rw [ht, hy]; simp [Z1w, XP]
 have hyl : y.length = n + 1 + (Z1w n).length := by rw [hy, List.length_append, List.length_append, hn]; rfl
 subst hL hr
 simp only [e0, ht, List.length_append, List.length_cons, List.length_nil, hn, List.nil_append]
 refine ⟨by omega, by omega, ⟨by omega, by omega⟩, ?_, ?_, ?_, by omega, fun i hi _ => ⟨fun he => by subst he; exact ⟨rfl, Nat.le_refl _, rfl⟩, fun h => h, fun h => h⟩⟩
 ·rw [hyl]; unfold Z1w XP; rfl
 ·rw [hyl]; unfold Z1w XP; exact Nat.le_refl _
 ·rw [hy]; simp [Z1w, XP]
theorem Zav (bs : List Int) (h : bs.length ≤ 100000000000) : ZB PP 137 [.vints .u8 bs bs.length] (.nslice ⟨0, 0, 0, 0, 0⟩ 1 (UC bs).length (UC bs).length) 1 [(0, .ints .u8 (UC bs))] := .evM (ZeP bs _ _) (Zj2 bs _ _ _ _ rfl h rfl (by unfold UC; rfl) rfl)
def Zg4 (P : List Int → List Int) (B : Nat) : Y9 := fun args h K => ZH none h true 20 args fun a => U0 a fun xs => Zw (xs.length ≤ B) (K (.ret (.nslice ⟨h.next, 0, 0, 0, 0⟩ 1 (P xs).length (P xs).length)) ⟨h.next + 1, (h.next, .ints .u8 (P xs)) :: h.bs⟩)
theorem Zcv (B : Nat) (hB : B ≤ 100000000000) (args : List AV) (h : Z7) (K : KO) (hl : Zg4 UC B args h K) : Zk PP 137 args h K := by
 refine ZB.fsumm (d := 20) (Zq _ _ _ _ _ hl fun a ha => ?_)
 obtain ⟨xs, rfl, hK⟩ := XT ha
 obtain ⟨hx, hK⟩ := Za hK
 exact ⟨_, _, _, _, Zav xs (Nat.le_trans hx hB), rfl, ⟨Nat.one_pos, .ints _ _, trivial⟩, hK⟩
def toE (x d : Int) : Int := u8.wrap (Int.tmod (u32.wrap (Int.tdiv x d)) 256)
def toN (x : List Int) : Nat → List Int
 | 0 => Z5
 | i + 1 => ((((toN x i).set (4 * i) (u8.wrap (u32.wrap (Int.tdiv (x.getD i 0) 16777216)))).set (4 * i + 1) (toE (x.getD i 0) 65536)).set (4 * i + 2) (toE (x.getD i 0) 256)).set (4 * i + 3) (u8.wrap (Int.tmod (x.getD i 0) 256))
theorem Z5j (x : List Int) : ∀ i, (toN x i).length = 32
 | 0 => rfl
 | i + 1 => by simp [toN, Z5j x i]
def toS (x h : List Int) (i : Nat) : St := ⟨47, [(4, .int .i64 i), (1, pt 0), (3, pt 2), (2, pt 1)], ⟨3, [(2, .flat [.arr .u8 32 h]), (1, .flat [.arr .u8 32 Z5]), (0, .flat [.arr .u32 8 x])]⟩, []⟩
theorem Zkt (x h h' : List Int) (i : Nat) (Z1 Z2 : Prop) (hi : i ≤ 8) (hl : h.length = 32) (hh : h' = (((h.set (4 * i) (u8.wrap (u32.wrap (Int.tdiv (x.getD i 0) 16777216)))).set (4 * i + 1) (toE (x.getD i 0) 65536)).set (4 * i + 2) (toE (x.getD i 0) 256)).set (4 * i + 3) (u8.wrap (Int.tmod (x.getD i 0) 256))) (h1 : i < 8 → Z1) (h2 : i = 8 → Z2) :
  ZF G0 20 139 0 0 (toS x h i) (rdM 0 0 9 (toS x h' (i + 1)) (toS x h i) (toS x h i) (toS x h i) Z1 Z2 False False) := by
 refine @Eq.mpr _ (let q1 := decide (0 ≤ (↑i : Int) ∧ (↑i : Int) < 8);
 let q2 := 0 + Int.toNat (↑i : Int);
 let q3 := decide (q2 < 8);
 let q4 := wrap i64 (4 * (↑i : Int));
 let q5 := 0 + Int.toNat q4;
 let q6 := wrap i64 (q4 + 1);
 let q7 := 0 + Int.toNat q6;
 let q8 := List.getD x q2 0;
 let q9 := List.set h q5 (wrap u8 (wrap u32 (Int.tdiv q8 16777216)));
 let q10 := wrap i64 (q4 + 2);
 let q11 := 0 + Int.toNat q10;
 let q12 := List.set q9 q7 (wrap u8 (Int.tmod (wrap u32 (Int.tdiv q8 65536)) 256));
 let q13 := wrap i64 (q4 + 3);
 let q14 := 0 + Int.toNat q13;
 let q15 := List.set q12 q11 (wrap u8 (Int.tmod (wrap u32 (Int.tdiv q8 256)) 256));
 Z0 (decide ((↑i : Int) < 8)) (Z0 q1 (Z0 q3 (Z0 (decide (0 ≤ q4 ∧ q4 < 32)) (Z0 (decide (u8 = u8 ∧ q5 < 32 ∧ q5 < List.length h)) (Z0 q1 (Z0 q3 (Z0 (decide (0 ≤ q6 ∧ q6 < 32)) (Z0 (decide (u8 = u8 ∧ q7 < 32 ∧ q7 < List.length q9)) (Z0 q1 (Z0 q3 (Z0 (decide (0 ≤ q10 ∧ q10 < 32)) (Z0 (decide (u8 = u8 ∧ q11 < 32 ∧ q11 < List.length q12)) (Z0 q1 (Z0 q3 (Z0 (decide (0 ≤ q13 ∧ q13 < 32)) (Z0 (decide (u8 = u8 ∧ q14 < 32 ∧ q14 < List.length q15)) (Z0 (decide (wrap i64 ((↑i : Int) + 1) = (↑(i + 1) : Int))) (List.set q15 q14 (wrap u8 (Int.tmod q8 256)) = h' ∧ Z5 = Z5 ∧ x = x ∧ Z1) False) False) False) False) False) False) False) False) False) False) False) False) False) False) False) False) False) (Z0 (decide ((↑i : Int) = (↑i : Int))) (h = h ∧ Z5 = Z5 ∧ x = x ∧ Z2) False)) (by kernel_rfl) ?_
 conv => zeta
 try simp only [Zg]
 try simp only [Zl]
 try simp only [Zh]
 try simp only [Zm]
 try simp only [Zn]
 try simp only [Zf]
 try simp only [Int.toNat_natCast, Nat.zero_add, true_and, and_true, Nat.le_refl]
 have hw : i64.wrap ((i : Int) + 1) = ((i + 1 : Nat) : Int) := w64 (by omega)
 refine ⟨fun hlt => ?_, fun hge => h2 (by omega)⟩
 have e0 : i64.wrap (4 * (i : Int)) = ((4 * i : Nat) : Int) := by rw [w64 (by omega)]; omega
 have e1 : i64.wrap (((4 * i : Nat) : Int) + 1) = ((4 * i + 1 : Nat) : Int) := by rw [w64 (by omega)]; omega
 have e2 : i64.wrap (((4 * i : Nat) : Int) + 2) = ((4 * i + 2 : Nat) : Int) := by rw [w64 (by omega)]; omega
 have e3 : i64.wrap (((4 * i : Nat) : Int) + 3) = ((4 * i + 3 : Nat) : Int) := by rw [w64 (by omega)]; omega
 simp only [e0, e1, e2, e3, hw, Int.toNat_natCast, List.length_set]
 repeat' (first | (refine And.intro ?_ ?_) | intro _)
 all_goals first | omega | exact hh.symm | exact h1 (by omega) | trivial
noncomputable def Zhj (x : List Int) : Zd := G0.withL 139 0 (goM 0 (toS x Z5 0) True (Ym 0 8 9 (fun i => i < 8) (fun i => i = 8) (fun _ => False) (fun _ => False) (fun i => toS x (toN x i) i) (fun i => toS x (toN x i) i) (fun i => toS x (toN x i) i)))
theorem ZeR (x : List Int) : (Zhj x).Ok := by
 unfold Zhj
 refine Zd.withGoM (N := 20) (S := fun i => toS x (toN x i) i) Zu (by kernel_rfl) fun hC => ⟨rfl, fun i hi hgo => ?_⟩
 exact Zkt x (toN x i) (toN x (i + 1)) i _ _ hi (Z5j x i) rfl (fun h => ⟨h, h⟩) (fun h => h)
@[irreducible] def U6 (x : List Int) : List Int := toN x 8
attribute [irreducible] toN
theorem Zku (x r : List Int) (hr : r = toN x 8) :
  evF (Zhj x) 20 139 [.agg [.arr .u32 8 x]] ⟨0, []⟩ (Yq 0 [] (.agg [.arr .u8 32 r]) 0 []) := by
 refine @Eq.mpr _ (Z5 = Z5 ∧ Z5 = Z5 ∧ x = x ∧ True ∧ ∀ (i : Nat), i ≤ 8 → (∀ (j : Nat), j < i → (fun (i : Nat) => i < 8) j) → (i = 8 → toN x i = r ∧ True) ∧ (False → Z5 = r ∧ True) ∧ (False → False)) (by kernel_rfl) ?_
 try simp only [Zg]
 try simp only [Zl]
 try simp only [Zh]
 try simp only [Zm]
 try simp only [Zn]
 try simp only [Zf]
 try simp only [Int.toNat_natCast, Nat.zero_add, true_and, and_true, Nat.le_refl]
 subst hr
 exact fun i hi _ => ⟨fun he => by subst he; rfl, fun h => h.elim, fun h => h⟩
def Zcw (T : List Int → List Int) : ZW := fun args _ K => match args with
 | [.agg [.arr .u32 8 x]] => K (.agg [.arr .u8 32 (T x)])
 | _ => False
theorem Zcx (args : List AV) (h : Z7) (K : AV → Prop) (hl : Zcw U6 args h K) : Zk PP 139 args h fun o h' => ∃ v, o = .ret v ∧ h' = h ∧ K v := by
 unfold Zcw at hl
 split at hl
 ·rename_i x
  refine Vy (d := 20) (K0 := fun l => l = [.agg [.arr .u32 8 x]]) ?_ fun l e => ⟨_, by rw [e]; exact (by unfold U6; exact .ev (ZeR x) (Zku x _ rfl)), fun _ => rfl, hl⟩
  rfl
 ·exact hl.elim
end Go.Tk
end
section
namespace Go.Tk
open IntKind (i64 u8 u32 u64 wrap)
def Z5k (P : List Int → List Int → List Int) : ZW := fun args _ K => match args with
 | [.agg [.arr .u32 8 st], .agg [.arr .u8 64 bl]] => Zw (st.length = 8) (K (.agg [.arr .u32 8 (P st bl)]))
 | _ => False
structure UY (P : List Int → List Int → List Int) : Prop where
 pure : ∀ st bl, st.length = 8 → ZB PP 138 [.agg [.arr .u32 8 st], .agg [.arr .u8 64 bl]] (.agg [.arr .u32 8 (P st bl)]) 0 []
 len : ∀ st bl, st.length = 8 → (P st bl).length = 8
theorem Z86 {P : List Int → List Int → List Int} (hP : UY P) (args : List AV) (h : Z7) (K : AV → Prop) (hl : Z5k P args h K) : Zk PP 138 args h fun o h' => ∃ v, o = .ret v ∧ h' = h ∧ K v := by
 unfold Z5k at hl
 split at hl
 ·rename_i st bl
  obtain ⟨hs, hK⟩ := Za hl
  refine Vy (d := 20) (K0 := fun l => l = [.agg [.arr .u32 8 st], .agg [.arr .u8 64 bl]]) ?_ fun l e => ⟨_, by rw [e]; exact hP.pure st bl hs, fun _ => rfl, hK⟩
  rfl
 ·exact hl.elim
noncomputable def E56 (P : List Int → List Int → List Int) (Q : List Int → List Int) (T : List Int → List Int) (B : Nat) : Zd := ((G0.withP 138 (Z5k P)).withF 137 (Zg4 Q B)).withP 139 (Zcw T)
theorem Zhk {P : List Int → List Int → List Int} (hP : UY P) {B : Nat} (hB : B ≤ 100000000000) : (E56 P UC U6 B).Ok := Zd.withP_ok (Zd.withF_ok (Zd.withP_ok Zu (Z86 hP)) (Zcv B hB)) Zcx
def ZeS (ys st : List Int) (o n : Nat) : St := ⟨21, [(4, .nslice ⟨3, 0, 0, 0, o⟩ 1 n n), (3, pt 2), (2, pt 0)], ⟨4, [(3, .ints .u8 ys), (2, .flat [.arr .u32 8 st]), (0, .flat [.arr .u8 32 Z5])]⟩, []⟩
def Zaw (st : List Int) : St := ⟨21, [(3, pt 2), (2, pt 0)], ⟨4, [(2, .flat [.arr .u32 8 st]), (0, .flat [.arr .u8 32 Z5])]⟩, []⟩
theorem Zj3 (P : List Int → List Int → List Int) (Q : List Int → List Int) (T : List Int → List Int) (B : Nat) (ys st st' : List Int) (o o' n n' k i : Nat) (Z1 Z2 : Prop) (hi : i ≤ k) (hk : ys.length = 64 * k) (ho : o = 64 * i) (ho' : o' = 64 * (i + 1)) (hn : n = 64 * k - 64 * i) (hn' : n' = 64 * k - 64 * (i + 1)) (hs : st.length = 8) (hst : st' = P st ((ys.drop o).take 64)) (h1 : i < k → Z1) (h2 : i = k → Z2) :
  ZF (E56 P Q T B) 20 91 0 0 (ZeS ys st o n) (rdM 0 0 9 (ZeS ys st' o' n') (Zaw st) (Zaw st) (Zaw st) Z1 Z2 False False) := by
 refine @Eq.mpr _ (let q1 := decide (n ≤ n);
 let q2 := decide ((0 : Int) ≤ 64 ∧ 64 ≤ (↑n : Int));
 let q3 := Z02 n (some 64);
 Z0 (decide ((↑n : Int) > 0)) (Z0 q1 (Z0 q2 (Z0 (decide (o + 0 + 64 ≤ List.length ys)) (Z0 (decide (List.length st = 8)) (Z0 q1 (Z0 q2 (Z0 (decide (o + 64 = o')) (Z0 (decide (q3 = n')) (Z0 (decide (n' ≤ q3)) (ys = ys ∧ P st (List.take 64 (List.drop (o + 0) ys)) = st' ∧ Z5 = Z5 ∧ Z1) False) False) False) False) False) False) False) False) False) (st = st ∧ Z5 = Z5 ∧ Z2)) (by kernel_rfl) ?_
 conv => zeta
 try simp only [Zg]
 try simp only [Zl]
 try simp only [Zh]
 try simp only [Zm]
 try simp only [Zn]
 try simp only [Zf]
 try simp only [Int.toNat_natCast, Nat.zero_add, true_and, and_true, Nat.le_refl]
 refine ⟨fun hlt => ?_, fun hge => h2 (by omega)⟩
 have e1 : n - 64 = n' := by omega
 have e2 : o + 64 = o' := by omega
 simp only [Z02, e1, e2, Nat.add_zero]
 repeat' (first | (refine And.intro ?_ ?_) | intro _)
 all_goals first | omega | exact hst.symm | exact h1 (by omega) | trivial
def Q5 (P : List Int → List Int → List Int) (ys : List Int) : Nat → List Int
 | 0 => Ya.st
 | i + 1 => P (Q5 P ys i) ((ys.drop (64 * i)).take 64)
theorem Z6t {P : List Int → List Int → List Int} (hP : UY P) (ys : List Int) : ∀ i, (Q5 P ys i).length = 8
 | 0 => rfl
 | i + 1 => hP.len _ _ (Z6t hP ys i)
theorem Z4k (P : List Int → List Int → List Int) (ys : List Int) : Q5 P ys 0 = Ya.st := rfl
theorem Z4l (P : List Int → List Int → List Int) (ys : List Int) (i : Nat) : Q5 P ys (i + 1) = P (Q5 P ys i) ((ys.drop (64 * i)).take 64) := rfl
attribute [irreducible] Q5
noncomputable def Zhl (P : List Int → List Int → List Int) (Q : List Int → List Int) (T : List Int → List Int) (B : Nat) (ys : List Int) (L k : Nat) : Zd := (E56 P Q T B).withL 91 0 (goM 0 (ZeS ys [1779033703, 3144134277, 1013904242, 2773480762, 1359893119, 2600822924, 528734635, 1541459225] 0 L) (ys.length = 64 * k ∧ L = 64 * k) (Ym 0 k 9 (fun i => i < k) (fun i => i = k) (fun _ => False) (fun _ => False) (fun i => Zaw (Q5 P ys i)) (fun i => Zaw (Q5 P ys i)) (fun i => Zaw (Q5 P ys i))))
theorem ZeT {P : List Int → List Int → List Int} (hP : UY P) {B : Nat} (hB : B ≤ 100000000000) (ys : List Int) (L k : Nat) : (Zhl P UC U6 B ys L k).Ok := by
 unfold Zhl
 refine Zd.withGoM (N := 20) (S := fun i => ZeS ys (Q5 P ys i) (64 * i) (64 * k - 64 * i)) (Zhk hP hB) (by kernel_rfl) fun hC => ⟨?_, fun i hi hgo => ?_⟩
 ·rw [hC.2, Z4k]; rfl
 ·exact Zj3 P UC U6 B ys (Q5 P ys i) (Q5 P ys (i + 1)) _ _ _ _ k i _ _ hi hC.1 rfl rfl rfl rfl (Z6t hP ys i) (Z4l _ _ _) (fun h => ⟨h, h⟩) (fun h => h)
theorem Zj4 (P : List Int → List Int → List Int) (Q : List Int → List Int) (T : List Int → List Int) (B : Nat) (bs ys r : List Int) (n L k : Nat) (hn : n = bs.length) (hB : n ≤ B) (hy : ys = Q bs) (hL : L = ys.length) (hk : ys.length = 64 * k) (hr : r = T (Q5 P ys k)) :
  evF (Zhl P Q T B ys L k) 20 91 [.vints .u8 bs n] ⟨0, []⟩ (Yq 0 [] (.agg [.arr .u8 32 r]) 0 []) := by
 refine @Eq.mpr _ (let q1 := [(1779033703 : Int), 3144134277, 1013904242, 2773480762, 1359893119, 2600822924, 528734635, 1541459225];
 Z0 (decide (n = List.length bs)) (Z0 (decide (List.length bs ≤ B)) (Z0 (decide (List.length (Q bs) = L)) (Z0 (decide (L ≤ List.length (Q bs))) (Q bs = ys ∧ q1 = q1 ∧ Z5 = Z5 ∧ (List.length ys = 64 * k ∧ L = 64 * k) ∧ ∀ (i : Nat), i ≤ k → (∀ (j : Nat), j < i → (fun (i : Nat) => i < k) j) → (i = k → T (Q5 P ys i) = r ∧ True) ∧ (False → Z5 = r ∧ True) ∧ (False → False)) False) False) False) False) (by kernel_rfl) ?_
 conv => zeta
 try simp only [Zg]
 try simp only [Zl]
 try simp only [Zh]
 try simp only [Zm]
 try simp only [Zn]
 try simp only [Zf]
 try simp only [Int.toNat_natCast, Nat.zero_add, true_and, and_true, Nat.le_refl]
 subst hy hr
 refine ⟨hn, by omega, ?_⟩
 exact ⟨hL.symm, by omega, rfl, ⟨hk, by omega⟩, fun i hi _ => ⟨fun he => by rw [he], fun h => h.elim, fun h => h⟩⟩
theorem Zcy (bs : List Int) (h : bs.length ≤ 100000000000) : (UC bs).length = 64 * ((UC bs).length / 64) := by
 have : (UC bs).length = bs.length + 1 + ((128 - ((bs.length : Int) + 9) % 64) % 64).toNat + 8 := by
  unfold UC Z1w
  rw [ZeQ _ h]
  simp only [List.length_append, List.length_cons, List.length_nil, Z31, List.length_replicate]
 omega
@[irreducible] def Zcz (P : List Int → List Int → List Int) (bs : List Int) : List Int := U6 (Q5 P (UC bs) ((UC bs).length / 64))
theorem Zax {P : List Int → List Int → List Int} (hP : UY P) (bs : List Int) (h : bs.length ≤ 100000000000) : ZB PP 91 [.vints .u8 bs bs.length] (.agg [.arr .u8 32 (Zcz P bs)]) 0 [] := by
 unfold Zcz
 exact .ev (ZeT hP (Nat.le_refl _) _ _ _) (Zj4 P UC U6 100000000000 bs _ _ _ _ _ rfl h rfl rfl (Zcy bs h) rfl)
def Zg5 (H : List Int → List Int) (B : Nat) : ZW := fun args h K => ZH none h true 20 args fun a => U0 a fun xs => Zw (xs.length ≤ B) (K (.agg [.arr .u8 32 (H xs)]))
theorem ZcA {f : FuncId} {H : List Int → List Int} {B : Nat} (hp : ∀ xs : List Int, xs.length ≤ B → ZB PP f [.vints .u8 xs xs.length] (.agg [.arr .u8 32 (H xs)]) 0 []) (args : List AV) (h : Z7) (K : AV → Prop) (hl : Zg5 H B args h K) : Zk PP f args h fun o h' => ∃ v, o = .ret v ∧ h' = h ∧ K v := by
 refine ZB.psumm (d := 20) (Zq _ _ _ _ _ hl fun a ha => ?_)
 obtain ⟨xs, rfl, hK⟩ := XT ha
 obtain ⟨hx, hK⟩ := Za hK
 exact ⟨_, hp xs hx, fun _ => rfl, hK⟩
noncomputable def Zj5 (H : List Int → List Int) (B : Nat) : Zd := G0.withP 91 (Zg5 H B)
theorem ZeU {H : List Int → List Int} {B : Nat} (hp : ∀ xs : List Int, xs.length ≤ B → ZB PP 91 [.vints .u8 xs xs.length] (.agg [.arr .u8 32 (H xs)]) 0 []) : (Zj5 H B).Ok := Zd.withP_ok Zu (ZcA hp)
end Go.Tk
end
section
namespace Go.Tk
open IntKind (i64 u8 u32 u64 wrap)
def kxE (key : List Int) (c : Int) (i : Nat) : Int := if (i : Int) < 32 then YC .u8 (key.getD i 0) c else c
def tgS (key ms xs ys : List Int) (i : Nat) : St := ⟨47, [(8, .int .i64 i), (0, .vints .u8 key 32), (6, .nslice ⟨1, 0, 0, 0, 0⟩ 1 i i), (7, .nslice ⟨2, 0, 0, 0, 0⟩ 1 i i), (1, .vints .u8 ms 32), (4, pt 0)], ⟨3, [(2, .ints .u8 ys), (1, .ints .u8 xs), (0, .flat [.arr .u8 32 Z5])]⟩, []⟩
def tgE (ms xs ys : List Int) (i : Nat) : St := ⟨47, [(6, .nslice ⟨1, 0, 0, 0, 0⟩ 1 i i), (7, .nslice ⟨2, 0, 0, 0, 0⟩ 1 i i), (1, .vints .u8 ms 32), (4, pt 0)], ⟨3, [(2, .ints .u8 ys), (1, .ints .u8 xs), (0, .flat [.arr .u8 32 Z5])]⟩, []⟩
theorem Zl9 (key ms xs ys xs' ys' : List Int) (i : Nat) (Z1 Z2 : Prop) (hi : i ≤ 64) (hx : xs.length = i) (hy : ys.length = i) (hx' : xs' = xs ++ [kxE key 54 i]) (hy' : ys' = ys ++ [kxE key 92 i]) (h1 : i < 64 → Z1) (h2 : i = 64 → Z2) :
  ZF G0 20 90 0 0 (tgS key ms xs ys i) (rdM 0 0 9 (tgS key ms xs' ys' (i + 1)) (tgE ms xs ys i) (tgE ms xs ys i) (tgE ms xs ys i) Z1 Z2 False False) := by
 refine @Eq.mpr _ (let q1 := decide (u8 = u8 ∧ List.length xs = i);
 let q2 := List.getD key (Int.toNat (↑i : Int)) 0;
 let q3 := xs ++ [YC u8 q2 54];
 let q4 := List.length q3;
 let q5 := decide (u8 = u8 ∧ List.length ys = i);
 let q6 := ys ++ [YC u8 q2 92];
 let q7 := List.length q6;
 let q8 := i + 1;
 let q9 := decide (wrap i64 ((↑i : Int) + 1) = (↑q8 : Int));
 let q10 := xs ++ [(54 : Int)];
 let q11 := List.length q10;
 let q12 := ys ++ [(92 : Int)];
 let q13 := List.length q12;
 let q14 := decide (i = i);
 let q15 := decide (i ≤ i);
 Z0 (decide ((↑i : Int) < 64)) (Z0 (decide ((↑i : Int) < 32)) (Z0 (decide (0 ≤ (↑i : Int) ∧ (↑i : Int) < 32)) (Z0 q1 (Z0 (decide (q4 * 1 ≤ 140737488355328)) (Z0 q5 (Z0 (decide (q7 * 1 ≤ 140737488355328)) (Z0 q9 (key = key ∧ Z0 (decide (q4 = q8)) (Z0 (decide (q8 ≤ q4)) (Z0 (decide (q7 = q8)) (Z0 (decide (q8 ≤ q7)) (ms = ms ∧ q6 = ys' ∧ q3 = xs' ∧ Z5 = Z5 ∧ Z1) False) False) False) False) False) False) False) False) False) False) (Z0 q1 (Z0 (decide (q11 * 1 ≤ 140737488355328)) (Z0 q5 (Z0 (decide (q13 * 1 ≤ 140737488355328)) (Z0 q9 (key = key ∧ Z0 (decide (q11 = q8)) (Z0 (decide (q8 ≤ q11)) (Z0 (decide (q13 = q8)) (Z0 (decide (q8 ≤ q13)) (ms = ms ∧ q12 = ys' ∧ q10 = xs' ∧ Z5 = Z5 ∧ Z1) False) False) False) False) False) False) False) False) False)) (Z0 q14 (Z0 q15 (Z0 q14 (Z0 q15 (ms = ms ∧ ys = ys ∧ xs = xs ∧ Z5 = Z5 ∧ Z2) False) False) False) False)) (by kernel_rfl) ?_
 conv => zeta
 try simp only [Zg]
 try simp only [Zl]
 try simp only [Zh]
 try simp only [Zm]
 try simp only [Zn]
 try simp only [Zf]
 try simp only [Int.toNat_natCast, Nat.zero_add, true_and, and_true, Nat.le_refl]
 have hw : i64.wrap ((i : Int) + 1) = ((i + 1 : Nat) : Int) := w64 (by omega)
 refine ⟨fun hlt => ⟨fun h32 => ?_, fun h32 => ?_⟩, fun hge => ?_⟩
 ·unfold kxE at hx' hy'
  rw [if_pos h32] at hx' hy'
  simp only [hw, List.length_append, List.length_cons, List.length_nil, hx, hy]
  repeat' (first | (refine And.intro ?_ ?_) | intro _)
  all_goals first | omega | exact hx'.symm | exact hy'.symm | exact h1 (by omega) | trivial
 ·unfold kxE at hx' hy'
  rw [if_neg h32] at hx' hy'
  simp only [hw, List.length_append, List.length_cons, List.length_nil, hx, hy]
  repeat' (first | (refine And.intro ?_ ?_) | intro _)
  all_goals first | omega | exact hx'.symm | exact hy'.symm | exact h1 (by omega) | trivial
 ·exact h2 (by omega)
theorem ZeV {xs : List Int} {n : Nat} (h : xs.length = n) : List.take n (YO 0 xs) = xs := by subst h; rw [Yo, List.drop_zero, List.take_length]
theorem Zkv (H : List Int → List Int) (B : Nat) (sec r : List Int) (hs : sec.length = 32) (hB : 128 ≤ B) (hl : ∀ x, (H x).length = 32) (hr : r = H (H [112, 111, 105, 110, 116] ++ H [112, 111, 105, 110, 116] ++ sec)) :
  evF (Zj5 H B) 20 21 [.agg [.arr .u8 32 sec]] ⟨0, []⟩ (Yq 0 [] (.agg [.arr .u8 32 r]) 0 []) := by
 refine @Eq.mpr _ (let q1 := H [(112 : Int), 111, 105, 110, 116];
 let q2 := decide (u8 = u8 ∧ List.length q1 = 32);
 let q3 := [] ++ q1;
 let q4 := List.length q3;
 let q5 := q3 ++ q1;
 let q6 := List.length q5;
 let q7 := q5 ++ sec;
 let q8 := List.length q7;
 let q9 := List.take q8 (YO 0 q7);
 let q10 := List.length q9;
 Z0 (decide (5 ≤ B)) (Z0 q2 (Z0 (decide (q4 * 1 ≤ 140737488355328)) (Z0 q2 (Z0 (decide (u8 = u8 ∧ q4 = q4)) (Z0 (decide (q6 * 1 ≤ 140737488355328)) (Z0 (decide (u8 = u8 ∧ List.length sec = 32)) (Z0 (decide (u8 = u8 ∧ q6 = q6)) (Z0 (decide (q8 * 1 ≤ 140737488355328)) (Z0 (decide (0 + q8 ≤ q8)) (Z0 (decide (q8 = q10)) (Z0 (decide (q10 ≤ B)) (H q9 = r ∧ True) False) False) False) False) False) False) False) False) False) False) False) False) (by kernel_rfl) ?_
 conv => zeta
 try simp only [Zg]
 try simp only [Zl]
 try simp only [Zh]
 try simp only [Zm]
 try simp only [Zn]
 try simp only [Zf]
 try simp only [Int.toNat_natCast, Nat.zero_add, true_and, and_true, Nat.le_refl]
 have l1 := hl [112, 111, 105, 110, 116]
 subst hr
 simp only [List.nil_append, ZeV rfl]
 simp only [List.length_append, hs, l1]
 repeat' (first | (refine And.intro ?_ ?_) | intro _)
 all_goals first | omega | trivial
@[irreducible] def YS (H : List Int → List Int) (sec : List Int) : List Int := H (H [112, 111, 105, 110, 116] ++ H [112, 111, 105, 110, 116] ++ sec)
theorem Z6u {H : List Int → List Int} {B : Nat} (hp : ∀ xs : List Int, xs.length ≤ B → ZB PP 91 [.vints .u8 xs xs.length] (.agg [.arr .u8 32 (H xs)]) 0 []) (hB : 128 ≤ B) (hl : ∀ x, (H x).length = 32) (s : List Int) (hs : s.length = 32) : ZB PP 21 [.agg [.arr .u8 32 s]] (.agg [.arr .u8 32 (YS H s)]) 0 [] := by
 unfold YS
 exact .ev (ZeU hp) (Zkv H B s _ hs hB hl rfl)
theorem QP {H : List Int → List Int} {B : Nat} (hp : ∀ xs : List Int, xs.length ≤ B → ZB PP 91 [.vints .u8 xs xs.length] (.agg [.arr .u8 32 (H xs)]) 0 []) (hB : 128 ≤ B) (hl : ∀ x, (H x).length = 32) (args : List AV) (h : Z7) (K : AV → Prop) (hl' : WG (YS H) args h K) : Zk PP 21 args h fun o h' => ∃ v, o = .ret v ∧ h' = h ∧ K v := by
 unfold WG at hl'
 split at hl'
 ·rename_i s
  obtain ⟨hs, hK⟩ := Za hl'
  refine Vy (d := 20) (K0 := fun l => l = [.agg [.arr .u8 32 s]]) ?_ fun l e => ⟨_, by rw [e]; exact Z6u hp hB hl s hs, fun _ => rfl, hK⟩
  rfl
 ·exact hl'.elim
end Go.Tk
end
section
namespace Go.Tk
open IntKind (i64 u8 u32 u64 wrap)
def U32 (x : Int) : Prop := 0 ≤ x ∧ x < 4294967296
theorem Z6v (x : Int) : u32.wrap x = x % 4294967296 := by
 unfold wrap
 simp [IntKind.bits, IntKind.signed]
theorem Z0Z (x : Int) : U32 (u32.wrap x) := by rw [Z6v]; unfold U32; omega
theorem XN {x : Int} (h : U32 x) : u32.wrap x = x := by rw [Z6v]; unfold U32 at h; omega
theorem wr8 (x : Int) : u8.wrap x = x % 256 := by
 unfold wrap
 simp [IntKind.bits, IntKind.signed]
theorem Zj6 (x y : Int) : U32 (bOr .u32 x y) := Z0Z _
theorem WL (x y : Nat) (hx : x < 4294967296) (hy : y < 4294967296) : YC .u32 x y = ((x ^^^ y : Nat) : Int) := by
 unfold YC
 rw [XN]
 ·show (((BitVec.ofInt 32 (x : Int) ^^^ BitVec.ofInt 32 (y : Int)).toNat : Nat) : Int) = _
  rw [BitVec.toNat_xor, BitVec.ofInt_natCast, BitVec.ofInt_natCast, BitVec.toNat_ofNat, BitVec.toNat_ofNat, Nat.mod_eq_of_lt hx, Nat.mod_eq_of_lt hy]
 ·unfold U32
  have := (BitVec.ofInt u32.bits x ^^^ BitVec.ofInt u32.bits y).isLt
  simp only [IntKind.bits] at this
  simp only [IntKind.bits]
  omega
theorem Z5l (x y : Nat) (hx : x < 4294967296) (hy : y < 4294967296) : bOr .u32 x y = ((x ||| y : Nat) : Int) := by
 unfold bOr
 rw [XN]
 ·show (((BitVec.ofInt 32 (x : Int) ||| BitVec.ofInt 32 (y : Int)).toNat : Nat) : Int) = _
  rw [BitVec.toNat_or, BitVec.ofInt_natCast, BitVec.ofInt_natCast, BitVec.toNat_ofNat, BitVec.toNat_ofNat, Nat.mod_eq_of_lt hx, Nat.mod_eq_of_lt hy]
 ·unfold U32
  have := (BitVec.ofInt u32.bits x ||| BitVec.ofInt u32.bits y).isLt
  simp only [IntKind.bits] at this
  simp only [IntKind.bits]
  omega
theorem Z32 (x y : Nat) (hx : x < 4294967296) (hy : y < 4294967296) : Z1q .u32 x y = ((x &&& y : Nat) : Int) := by
 unfold Z1q
 rw [XN]
 ·show (((BitVec.ofInt 32 (x : Int) &&& BitVec.ofInt 32 (y : Int)).toNat : Nat) : Int) = _
  rw [BitVec.toNat_and, BitVec.ofInt_natCast, BitVec.ofInt_natCast, BitVec.toNat_ofNat, BitVec.toNat_ofNat, Nat.mod_eq_of_lt hx, Nat.mod_eq_of_lt hy]
 ·unfold U32
  have := (BitVec.ofInt u32.bits x &&& BitVec.ofInt u32.bits y).isLt
  simp only [IntKind.bits] at this
  simp only [IntKind.bits]
  omega
theorem U32.nat {x : Int} (h : U32 x) : ∃ n : Nat, x = n ∧ n < 4294967296 := ⟨x.toNat, by unfold U32 at h; omega, by unfold U32 at h; omega⟩
theorem U32.of {n : Nat} (h : n < 4294967296) : U32 (n : Int) := by unfold U32; omega
theorem Zay {x y : Int} : YC .u32 x y = YC .u32 y x := by unfold YC; rw [BitVec.xor_comm]
theorem Z87 {x y z : Int} (hx : U32 x) (hy : U32 y) (hz : U32 z) : YC .u32 (YC .u32 x y) z = YC .u32 x (YC .u32 y z) := by
 obtain ⟨x, rfl, gx⟩ := hx.nat
 obtain ⟨y, rfl, gy⟩ := hy.nat
 obtain ⟨z, rfl, gz⟩ := hz.nat
 rw [WL x y gx gy, WL y z gy gz, WL _ z (Nat.xor_lt_two_pow (n := 32) gx gy) gz, WL x _ gx (Nat.xor_lt_two_pow (n := 32) gy gz), Nat.xor_assoc]
theorem Zaz {x : Int} (hx : U32 x) : YC .u32 0 x = x := by
 obtain ⟨x, rfl, gx⟩ := hx.nat
 have := WL 0 x (by omega) gx
 simpa using this
theorem Z5m (x n : Nat) (hn : n ≤ 32) : ZA .u32 x n = ((x / 2 ^ n : Nat) : Int) := by
 unfold ZA
 have : min (n : Int).toNat u32.bits = n := by simp [IntKind.bits]; omega
 rw [this, Int.fdiv_eq_ediv_of_nonneg _ (Int.le_of_lt (Int.pow_pos (by decide)))]
 simp
theorem Zj7 {x : Int} (hx : U32 x) (n : Nat) (hn : n ≤ 32) : U32 (ZA .u32 x n) := by
 obtain ⟨x, rfl, gx⟩ := hx.nat
 rw [Z5m x n hn]
 exact U32.of (Nat.lt_of_le_of_lt (Nat.div_le_self x (2 ^ n)) gx)
theorem Z88 (w n : Int) : U32 (Z7G w n) := Zj6 _ _
theorem Z9a {w : Int} (hw : U32 w) (a b c : Int) : sg3 a b c w = Wj 32 [a, b, c] w := by
 obtain ⟨x, rfl, gx⟩ := hw.nat
 have h0 : ZA .u32 (x : Int) 32 = 0 := by
  rw [show (32 : Int) = ((32 : Nat) : Int) from rfl, Z5m x 32 (by omega), Nat.div_eq_of_lt gx]
  rfl
 unfold sg3 Wj
 simp only [List.foldl_cons, List.foldl_nil, h0, Zaz (Z88 _ _)]
theorem Z9b {w : Int} (hw : U32 w) (a b : Int) (n : Nat) (hn : n ≤ 32) : rg3 a b n w = Wj n [a, b] w := by
 have hs := Zj7 hw n hn
 unfold rg3 Wj
 simp only [List.foldl_cons, List.foldl_nil]
 rw [Zay, Z87 hs (Z88 _ _) (Z88 _ _)]
theorem Wr (x i : Nat) (hi : i ≤ 32) : Int.tmod (ZA .u32 x i) 2 = (((x.testBit i).toNat : Nat) : Int) := by
 rw [Z5m x i hi]
 rw [Int.tmod_eq_emod_of_nonneg (Int.natCast_nonneg _), Nat.toNat_testBit]
 rfl
theorem Z5n (b : Bool) (i : Nat) (hi : i < 32) : ZM .u32 ((b.toNat : Nat) : Int) i = ((2 ^ i * b.toNat : Nat) : Int) := by
 unfold ZM
 have : min (i : Int).toNat u32.bits = i := by simp [IntKind.bits]; omega
 rw [this]
 have h2 : (2 : Nat) ^ i < 2 ^ 32 := Nat.pow_lt_pow_right (by decide) hi
 have h3 : ((2 : Nat) ^ i * b.toNat) < 4294967296 := by cases b <;> simp_all
 rw [show ((b.toNat : Nat) : Int) * 2 ^ i = ((2 ^ i * b.toNat : Nat) : Int) by push_cast; rw [Int.mul_comm]]
 exact XN (U32.of h3)
theorem Z9c (x i : Nat) : x % 2 ^ (i + 1) = x % 2 ^ i + 2 ^ i * (x.testBit i).toNat := by
 rw [Nat.toNat_testBit, Nat.mod_pow_succ]
theorem Z9d (x i : Nat) (hx : x < 4294967296) (hi : i < 32) : u32.wrap (((x % 2 ^ i : Nat) : Int) + ((2 ^ i * (x.testBit i).toNat : Nat) : Int)) = ((x % 2 ^ (i + 1) : Nat) : Int) := by
 rw [Z9c]
 rw [XN]
 ·push_cast; rfl
 ·rw [show ((x % 2 ^ i : Nat) : Int) + ((2 ^ i * (x.testBit i).toNat : Nat) : Int) = ((x % 2 ^ i + 2 ^ i * (x.testBit i).toNat : Nat) : Int) by push_cast; rfl, ← Z9c]
  exact U32.of (Nat.lt_of_le_of_lt (Nat.mod_le _ _) hx)
theorem Z4m (a b c : Nat) (ha : a < 4294967296) (hb : b < 4294967296) (hc : c < 4294967296) : ∀ i, i ≤ 32 → V8 a b c i = (((a &&& (b ||| c) ||| b &&& c) % 2 ^ i : Nat) : Int)
 | 0, _ => by simp [V8, Nat.mod_one]
 | i + 1, hi => by
  have hm : (a &&& (b ||| c) ||| b &&& c) < 4294967296 := Nat.or_lt_two_pow (n := 32) (Nat.lt_of_le_of_lt Nat.and_le_left ha) (Nat.lt_of_le_of_lt Nat.and_le_left hb)
  rw [V8, Z4m a b c ha hb hc i (by omega), Wr a i (by omega), Wr b i (by omega), Wr c i (by omega), ← Z9d _ i hm (by omega)]
  have ht : (a &&& (b ||| c) ||| b &&& c).testBit i = (a.testBit i && (b.testBit i || c.testBit i) || b.testBit i && c.testBit i) := by simp
  rw [ht]
  have h1 := Z5n true i (by omega)
  have hx : u32.wrap (((a &&& (b ||| c) ||| b &&& c) % 2 ^ i : Nat) : Int) = (((a &&& (b ||| c) ||| b &&& c) % 2 ^ i : Nat) : Int) := XN (U32.of (Nat.lt_of_le_of_lt (Nat.mod_le _ _) hm))
  rw [Z6v, Z6v]
  cases a.testBit i <;> cases b.testBit i <;> cases c.testBit i <;> simp at h1 hx ⊢ <;> first | rw [h1] | rw [hx]
theorem ZeW {a b c : Int} (ha : U32 a) (hb : U32 b) (hc : U32 c) : Xs a b c = bOr .u32 (Z1q .u32 a (bOr .u32 b c)) (Z1q .u32 b c) := by
 obtain ⟨a, rfl, ga⟩ := ha.nat
 obtain ⟨b, rfl, gb⟩ := hb.nat
 obtain ⟨c, rfl, gc⟩ := hc.nat
 have h1 := Nat.or_lt_two_pow (n := 32) gb gc
 have h2 : a &&& (b ||| c) < 4294967296 := Nat.lt_of_le_of_lt Nat.and_le_left ga
 have h3 : b &&& c < 4294967296 := Nat.lt_of_le_of_lt Nat.and_le_left gb
 rw [Z5l b c gb gc, Z32 a _ ga h1, Z32 b c gb gc, Z5l _ _ h2 h3]
 unfold Xs
 rw [Z4m a b c ga gb gc 32 (by omega), Nat.mod_eq_of_lt]
 exact Nat.or_lt_two_pow (n := 32) h2 h3
theorem Z4n (a b c : Nat) (ha : a < 4294967296) (hb : b < 4294967296) (hc : c < 4294967296) : ∀ i, i ≤ 32 → VH a b c i = (((c ^^^ (a &&& (b ^^^ c))) % 2 ^ i : Nat) : Int)
 | 0, _ => by simp [VH, Nat.mod_one]
 | i + 1, hi => by
  have hm : (c ^^^ (a &&& (b ^^^ c))) < 4294967296 := Nat.xor_lt_two_pow (n := 32) hc (Nat.lt_of_le_of_lt Nat.and_le_left ha)
  rw [VH, Z4n a b c ha hb hc i (by omega), Wr a i (by omega), Wr b i (by omega), Wr c i (by omega), ← Z9d _ i hm (by omega)]
  have ht : (c ^^^ (a &&& (b ^^^ c))).testBit i = (c.testBit i ^^ (a.testBit i && (b.testBit i ^^ c.testBit i))) := by simp
  rw [ht]
  have h1 := Z5n true i (by omega)
  have h0 := Z5n false i (by omega)
  cases a.testBit i <;> cases b.testBit i <;> cases c.testBit i <;> simp at h1 h0 ⊢ <;> first | rw [h1] | rw [h0, Int.add_zero]
theorem ZeX {a b c : Int} (ha : U32 a) (hb : U32 b) (hc : U32 c) : Xm a b c = YC .u32 c (Z1q .u32 a (YC .u32 b c)) := by
 obtain ⟨a, rfl, ga⟩ := ha.nat
 obtain ⟨b, rfl, gb⟩ := hb.nat
 obtain ⟨c, rfl, gc⟩ := hc.nat
 have h1 := Nat.xor_lt_two_pow (n := 32) gb gc
 have h2 : a &&& (b ^^^ c) < 4294967296 := Nat.lt_of_le_of_lt Nat.and_le_left ga
 rw [WL b c gb gc, Z32 a _ ga h1, WL _ _ gc h2]
 unfold Xm
 rw [Z4n a b c ga gb gc 32 (by omega), Nat.mod_eq_of_lt]
 exact Nat.xor_lt_two_pow (n := 32) gc h2
theorem Z4o (bl : List Int) (t : Nat) : W4 bl (t + 1) = (W4 bl t).set t (if t < 16 then Z85 bl t else Zct (W4 bl t) t) := by rw [W4]
theorem Z4p (bl : List Int) (s t : Nat) (hs : s < t) : ∀ u, (W4 bl (t + u)).getD s 0 = (W4 bl t).getD s 0
 | 0 => rfl
 | u + 1 => by
  rw [← Nat.add_assoc, Z4o, ← Z4p bl s t hs u]
  simp only [List.getD_eq_getElem?_getD]
  rw [List.getElem?_set_ne (by omega)]
@[irreducible] def Z1x (bl : List Int) (t : Nat) : Int := (W4 bl 64).getD t 0
theorem Z0m (bl : List Int) {s t : Nat} (hs : s < t) (ht : t ≤ 64) : (W4 bl t).getD s 0 = Z1x bl s := by
 unfold Z1x
 have := Z4p bl s t hs (64 - t)
 rw [show t + (64 - t) = 64 by omega] at this
 exact this.symm
theorem Z9e (bl : List Int) {t : Nat} (ht : t < 64) : Z1x bl t = if t < 16 then Z85 bl t else Zct (W4 bl t) t := by
 rw [← Z0m bl (Nat.lt_succ_self t) (by omega), Z4o]
 simp only [List.getD_eq_getElem?_getD]
 rw [List.getElem?_set_self (by rw [Z2Z]; omega)]
 rfl
theorem Z9f (bl : List Int) {t : Nat} (ht : t < 16) : Z1x bl t = Z85 bl t := by rw [Z9e bl (by omega), if_pos ht]
theorem Z9g (bl : List Int) {t : Nat} (h16 : 16 ≤ t) (ht : t < 64) : Z1x bl t = u32.wrap (u32.wrap (u32.wrap (rg3 17 19 10 (Z1x bl (t - 2)) + Z1x bl (t - 7)) + rg3 7 18 3 (Z1x bl (t - 15))) + Z1x bl (t - 16)) := by
 rw [Z9e bl (by omega), if_neg (by omega)]
 unfold Zct
 rw [Z0m bl (by omega) (by omega), Z0m bl (by omega) (by omega), Z0m bl (by omega) (by omega), Z0m bl (by omega) (by omega)]
theorem ZcB (bl : List Int) {t : Nat} (ht : t < 64) : U32 (Z1x bl t) := by
 by_cases h : t < 16
 ·rw [Z9f bl h]; exact Z0Z _
 ·rw [Z9g bl (by omega) ht]; exact Z0Z _
theorem Z0n (t : Nat) : mAt (t : Int) = t % 16 := by
 unfold mAt
 rw [tm (by omega)]
 omega
theorem V9 (i t : Nat) (hi : i < 8) (ht : t ≤ 64) : atI (i : Int) (t : Int) = (i + 64 - t) % 8 := by
 unfold atI
 rw [w64 (x := (i : Int) + 64) (by omega), w64 (by omega), tm (by omega)]
 omega
theorem Z33 (l : List Int) (i j : Nat) (x : Int) (hi : i < l.length) : (l.set i x).getD j 0 = if i = j then x else l.getD j 0 := by
 simp only [List.getD_eq_getElem?_getD]
 by_cases h : i = j
 ·subst h
  rw [List.getElem?_set_self hi, if_pos rfl]; rfl
 ·rw [List.getElem?_set_ne h, if_neg h]
def Ring (bl r : List Int) (t : Nat) : Prop := r.length = 16 ∧ ∀ s, s < max 16 t → max 16 t ≤ s + 16 → r.getD (s % 16) 0 = Z1x bl s
theorem Ring.step {bl r : List Int} {t : Nat} (h : Ring bl r t) (ht : t < 64) : Ring bl (QH t r) (t + 1) := by
 obtain ⟨hl, hr⟩ := h
 refine ⟨by rw [Z6h, hl], fun s h1 h2 => ?_⟩
 unfold QH
 by_cases h16 : t < 16
 ·rw [if_neg (by omega)]
  exact hr s (by omega) (by omega)
 ·rw [if_pos (by omega)]
  have w1 : i64.wrap ((t : Int) + 1) = ((t + 1 : Nat) : Int) := by rw [w64 (by omega)]; omega
  have w9 : i64.wrap ((t : Int) + 9) = ((t + 9 : Nat) : Int) := by rw [w64 (by omega)]; omega
  have w14 : i64.wrap ((t : Int) + 14) = ((t + 14 : Nat) : Int) := by rw [w64 (by omega)]; omega
  have r0 := hr (t - 16) (by omega) (by omega)
  have r1 := hr (t - 15) (by omega) (by omega)
  have r9 := hr (t - 7) (by omega) (by omega)
  have r14 := hr (t - 2) (by omega) (by omega)
  rw [show (t - 16) % 16 = t % 16 by omega] at r0
  rw [show (t - 15) % 16 = (t + 1) % 16 by omega] at r1
  rw [show (t - 7) % 16 = (t + 9) % 16 by omega] at r9
  rw [show (t - 2) % 16 = (t + 14) % 16 by omega] at r14
  rw [w1, w9, w14, Z0n, Z0n, Z0n, Z0n, r0, r1, r9, r14, Z33 _ _ _ _ (by rw [hl]; omega)]
  by_cases hs : s = t
  ·subst hs
   rw [if_pos rfl, Z9g bl (by omega) ht]
   have e1 := Z9b (ZcB bl (t := s - 2) (by omega)) 17 19 10 (by omega)
   have e2 := Z9b (ZcB bl (t := s - 15) (by omega)) 7 18 3 (by omega)
   rw [show ((10 : Nat) : Int) = 10 from rfl] at e1
   rw [show ((3 : Nat) : Int) = 3 from rfl] at e2
   rw [e1, e2]
   simp only [Z6v]
   omega
  ·rw [if_neg (by omega)]
   exact hr s (by omega) (by omega)
def U8 (x : Int) : Prop := 0 ≤ x ∧ x < 256
theorem Z1K (x n : Nat) (hn : n ≤ 32) (h : x * 2 ^ n < 4294967296) : ZM .u32 x n = ((x * 2 ^ n : Nat) : Int) := by
 unfold ZM
 have : min (n : Int).toNat u32.bits = n := by simp [IntKind.bits]; omega
 rw [this, show (x : Int) * 2 ^ n = ((x * 2 ^ n : Nat) : Int) by push_cast; rfl]
 exact XN (U32.of h)
theorem Z1L (x y : Nat) (hx : x < 16777216) (hy : y < 256) : bOr .u32 (ZM .u32 x 8) y = ((x * 256 + y : Nat) : Int) := by
 have := Z1K x 8 (by omega) (by omega)
 rw [show ((8 : Nat) : Int) = 8 from rfl] at this
 rw [this, Z5l _ _ (by omega) (by omega), ← Nat.shiftLeft_eq, ← Nat.shiftLeft_add_eq_or_of_lt (by omega), Nat.shiftLeft_eq]
theorem UD {P : Int → Prop} {l : List Int} (h : ∀ x ∈ l, P x) (h0 : P 0) (i : Nat) : P (l.getD i 0) := by
 rw [List.getD_eq_getElem?_getD]
 cases hg : l[i]? with
 | none => exact h0
 | some x => exact h x (List.mem_of_getElem? hg)
theorem U8.nat {x : Int} (h : U8 x) : ∃ n : Nat, x = n ∧ n < 256 := ⟨x.toNat, by unfold U8 at h; omega, by unfold U8 at h; omega⟩
theorem ZeY (bl : List Int) (hb : ∀ x ∈ bl, U8 x) (t : Nat) : XQ bl (4 * t) = Z85 bl t := by
 unfold XQ Z85
 obtain ⟨a, ea, ha⟩ := (UD (P := U8) hb (by unfold U8; omega) (4 * t)).nat
 obtain ⟨b, eb, hb'⟩ := (UD (P := U8) hb (by unfold U8; omega) (4 * t + 1)).nat
 obtain ⟨c, ec, hc⟩ := (UD (P := U8) hb (by unfold U8; omega) (4 * t + 2)).nat
 obtain ⟨d, ed, hd⟩ := (UD (P := U8) hb (by unfold U8; omega) (4 * t + 3)).nat
 rw [ea, eb, ec, ed]
 rw [XN (x := (a : Int)) (U32.of (by omega)), XN (x := (b : Int)) (U32.of (by omega)), XN (x := (c : Int)) (U32.of (by omega)), XN (x := (d : Int)) (U32.of (by omega))]
 have z := Z1L 0 a (by omega) ha
 have s0 : ZM .u32 0 8 = 0 := by decide
 rw [show ZM .u32 ((0 : Nat) : Int) 8 = 0 from s0] at z
 rw [z, Z1L _ b (by omega) hb', Z1L _ c (by omega) hc, Z1L _ d (by omega) hd]
 have g1 := Z1K a 24 (by omega) (by omega)
 have g2 := Z1K b 16 (by omega) (by omega)
 have g3 := Z1K c 8 (by omega) (by omega)
 rw [show ((24 : Nat) : Int) = 24 from rfl] at g1
 rw [show ((16 : Nat) : Int) = 16 from rfl] at g2
 rw [show ((8 : Nat) : Int) = 8 from rfl] at g3
 rw [g1, g2, g3]
 simp only [Z6v]
 omega
theorem Ring.first (bl : List Int) (hb : ∀ x ∈ bl, U8 x) : Ring bl (WF bl) 0 := by
 refine ⟨rfl, fun s h1 _ => ?_⟩
 have h16 : s < 16 := by omega
 rw [Z9f bl h16, ← ZeY bl hb, Nat.mod_eq_of_lt h16]
 have : s = 0 ∨ s = 1 ∨ s = 2 ∨ s = 3 ∨ s = 4 ∨ s = 5 ∨ s = 6 ∨ s = 7 ∨ s = 8 ∨ s = 9 ∨ s = 10 ∨ s = 11 ∨ s = 12 ∨ s = 13 ∨ s = 14 ∨ s = 15 := by omega
 rcases this with rfl | rfl | rfl | rfl | rfl | rfl | rfl | rfl | rfl | rfl | rfl | rfl | rfl | rfl | rfl | rfl <;> rfl
def Z34 (x y : List Int) (t : Nat) : Prop := x.length = 8 ∧ ∀ i, i < 8 → x.getD ((i + 64 - t) % 8) 0 = y.getD i 0
theorem Z34.step {x y m : List Int} {w : Int} {t : Nat} (h : Z34 x y t) (hU : ∀ i, i < 8 → U32 (y.getD i 0)) (ht : t < 64) (hm : m.getD (t % 16) 0 = w) :
  Z34 (Z3z t m x) (Z1m Xs Xm (Vh.getD t 0) w y) (t + 1) := by
 obtain ⟨hl, hr⟩ := h
 have a0 := V9 0 t (by omega) (by omega)
 have a1 := V9 1 t (by omega) (by omega)
 have a2 := V9 2 t (by omega) (by omega)
 have a3 := V9 3 t (by omega) (by omega)
 have a4 := V9 4 t (by omega) (by omega)
 have a5 := V9 5 t (by omega) (by omega)
 have a6 := V9 6 t (by omega) (by omega)
 have a7 := V9 7 t (by omega) (by omega)
 have h0 := hr 0 (by omega)
 have h1 := hr 1 (by omega)
 have h2 := hr 2 (by omega)
 have h3 := hr 3 (by omega)
 have h4 := hr 4 (by omega)
 have h5 := hr 5 (by omega)
 have h6 := hr 6 (by omega)
 have h7 := hr 7 (by omega)
 rw [← a0] at h0
 rw [← a1] at h1
 rw [← a2] at h2
 rw [← a3] at h3
 rw [← a4] at h4
 rw [← a5] at h5
 rw [← a6] at h6
 rw [← a7] at h7
 refine ⟨by rw [Z6i, hl], ?_⟩
 have hadd : Z0N t m x = u32.wrap (u32.wrap (u32.wrap (u32.wrap (y.getD 7 0 + sg3 6 11 25 (y.getD 4 0)) + Xm (y.getD 4 0) (y.getD 5 0) (y.getD 6 0)) + Vh.getD t 0) + w) := by
  unfold Z0N
  rw [Z0n, hm]
  rw [show atI 7 (t : Int) = atI ((7 : Nat) : Int) t from rfl, show atI 4 (t : Int) = atI ((4 : Nat) : Int) t from rfl, show atI 5 (t : Int) = atI ((5 : Nat) : Int) t from rfl, show atI 6 (t : Int) = atI ((6 : Nat) : Int) t from rfl]
  rw [h4, h5, h6, h7, Z9a (hU 4 (by omega)), ZeX (hU 4 (by omega)) (hU 5 (by omega)) (hU 6 (by omega))]
  rw [Nat.zero_add, Int.toNat_natCast]
 unfold Z3z
 rw [hadd]
 rw [show atI 7 (t : Int) = atI ((7 : Nat) : Int) t from rfl, show atI 3 (t : Int) = atI ((3 : Nat) : Int) t from rfl, show atI 0 (t : Int) = atI ((0 : Nat) : Int) t from rfl, show atI 1 (t : Int) = atI ((1 : Nat) : Int) t from rfl, show atI 2 (t : Int) = atI ((2 : Nat) : Int) t from rfl]
 rw [h0, h1, h2, h3, ← ZeW (hU 0 (by omega)) (hU 1 (by omega)) (hU 2 (by omega)), ← Z9a (hU 0 (by omega)), a3, a7]
 intro i hi
 rw [Z33 _ _ _ _ (by rw [List.length_set, hl]; omega), Z33 _ _ _ _ (by rw [hl]; omega)]
 unfold Z1m
 have : i = 0 ∨ i = 1 ∨ i = 2 ∨ i = 3 ∨ i = 4 ∨ i = 5 ∨ i = 6 ∨ i = 7 := by omega
 rcases this with rfl | rfl | rfl | rfl | rfl | rfl | rfl | rfl
 ·rw [if_pos (by omega)]
  simp only [Z6v, List.getD_cons_zero]
  omega
 ·rw [if_neg (by omega), if_neg (by omega), show (1 + 64 - (t + 1)) % 8 = (0 + 64 - t) % 8 by omega, hr 0 (by omega)]; rfl
 ·rw [if_neg (by omega), if_neg (by omega), show (2 + 64 - (t + 1)) % 8 = (1 + 64 - t) % 8 by omega, hr 1 (by omega)]; rfl
 ·rw [if_neg (by omega), if_neg (by omega), show (3 + 64 - (t + 1)) % 8 = (2 + 64 - t) % 8 by omega, hr 2 (by omega)]; rfl
 ·rw [if_neg (by omega), if_pos (by omega)]; rfl
 ·rw [if_neg (by omega), if_neg (by omega), show (5 + 64 - (t + 1)) % 8 = (4 + 64 - t) % 8 by omega, hr 4 (by omega)]; rfl
 ·rw [if_neg (by omega), if_neg (by omega), show (6 + 64 - (t + 1)) % 8 = (5 + 64 - t) % 8 by omega, hr 5 (by omega)]; rfl
 ·rw [if_neg (by omega), if_neg (by omega), show (7 + 64 - (t + 1)) % 8 = (6 + 64 - t) % 8 by omega, hr 6 (by omega)]; rfl
theorem ZeZ {k w : Int} {y : List Int} (hU : ∀ i, i < 8 → U32 (y.getD i 0)) : ∀ i, i < 8 → U32 ((Z1m Xs Xm k w y).getD i 0) := by
 intro i hi
 unfold Z1m
 have : i = 0 ∨ i = 1 ∨ i = 2 ∨ i = 3 ∨ i = 4 ∨ i = 5 ∨ i = 6 ∨ i = 7 := by omega
 rcases this with rfl | rfl | rfl | rfl | rfl | rfl | rfl | rfl
 ·exact Z0Z _
 ·exact hU 0 (by omega)
 ·exact hU 1 (by omega)
 ·exact hU 2 (by omega)
 ·exact Z0Z _
 ·exact hU 4 (by omega)
 ·exact hU 5 (by omega)
 ·exact hU 6 (by omega)
def W8 (st : List Int) : Prop := st.length = 8 ∧ ∀ x ∈ st, U32 x
theorem W8.get {st : List Int} (h : W8 st) (i : Nat) : U32 (st.getD i 0) := UD h.2 (by unfold U32; omega) i
theorem Z6w (bl st : List Int) (hb : ∀ x ∈ bl, U8 x) (hs : W8 st) : ∀ t, t ≤ 64 → Ring bl (Wk (WF bl) st t).1 t ∧ Z34 (Wk (WF bl) st t).2 (UB Xs Xm (W4 bl 64) st t) t ∧ ∀ i, i < 8 → U32 ((UB Xs Xm (W4 bl 64) st t).getD i 0)
 | 0, _ => by
  rw [Z3Z, Zau]
  refine ⟨Ring.first bl hb, ⟨hs.1, fun i hi => ?_⟩, fun i _ => hs.get i⟩
  rw [show (i + 64 - 0) % 8 = i by omega]
 | t + 1, h => by
  obtain ⟨h1, h2, h3⟩ := Z6w bl st hb hs t (by omega)
  rw [Z40, Zat]
  have hR := h1.step (by omega)
  refine ⟨hR, h2.step h3 (by omega) ?_, ZeZ h3⟩
  rw [hR.2 t (by omega) (by omega)]
  unfold Z1x
  rfl
theorem ZaA (st x : List Int) (i : Nat) : Vk st x (i + 1) = (Vk st x i).set i (u32.wrap ((Vk st x i).getD i 0 + st.getD i 0)) := by rw [Vk]
theorem ZaB (st x : List Int) : Vk st x 0 = x := by rw [Vk]
theorem Zf0 (st x : List Int) (hs : st.length = 8) (hx : x.length = 8) : Vk st x 8 = Za9 st x := by
 obtain ⟨a0, a1, a2, a3, a4, a5, a6, a7, rfl⟩ := eight st hs
 obtain ⟨b0, b1, b2, b3, b4, b5, b6, b7, rfl⟩ := eight x hx
 simp only [ZaA, ZaB]
 simp [Za9, List.set, Int.add_comm]
theorem Z89 {x y : List Int} (h : Z34 x y 64) (hy : y.length = 8) : y = x := by
 obtain ⟨h4, h5⟩ := h
 obtain ⟨a0, a1, a2, a3, a4, a5, a6, a7, rfl⟩ := eight _ hy
 obtain ⟨b0, b1, b2, b3, b4, b5, b6, b7, rfl⟩ := eight _ h4
 have g0 := h5 0 (by omega)
 have g1 := h5 1 (by omega)
 have g2 := h5 2 (by omega)
 have g3 := h5 3 (by omega)
 have g4 := h5 4 (by omega)
 have g5 := h5 5 (by omega)
 have g6 := h5 6 (by omega)
 have g7 := h5 7 (by omega)
 simp at g0 g1 g2 g3 g4 g5 g6 g7
 simp [g0, g1, g2, g3, g4, g5, g6, g7]
theorem Z6x (st bl : List Int) (hb : ∀ x ∈ bl, U8 x) (hs : W8 st) : XM st bl = W0 st bl := by
 obtain ⟨_, h2, h3⟩ := Z6w bl st hb hs 64 (by omega)
 have hl := Z0l (M := Xs) (P := Xm) (m := W4 bl 64) hs.1 64
 unfold XM W0
 rw [Zf0 _ _ hs.1 hl]
 congr 1
 exact Z89 h2 hl
theorem Z6y (st bl : List Int) (hs : st.length = 8) : W8 (W0 st bl) := by
 refine ⟨Z41 st bl hs, fun x hx => ?_⟩
 unfold W0 Za9 at hx
 obtain ⟨i, hi, rfl⟩ := List.getElem_of_mem hx
 simp only [List.getElem_zipWith]
 exact Z0Z _
def Q6 (P : List Int → List Int → List Int) : Nat → List Int → List Int → List Int
 | 0, st, _ => st
 | n + 1, st, ms => Q6 P n (P st (ms.take 64)) (ms.drop 64)
theorem Z10 (P : List Int → List Int → List Int) : ∀ (n : Nat) (st ms : List Int), Q6 P (n + 1) st ms = P (Q6 P n st ms) ((ms.drop (64 * n)).take 64)
 | 0, _, _ => rfl
 | n + 1, st, ms => by
  rw [Q6, Z10 P n, List.drop_drop]
  rw [show 64 + 64 * n = 64 * (n + 1) by omega]
  rfl
theorem Z35 (P : List Int → List Int → List Int) : ∀ (n : Nat) (st ms more : List Int), 64 * n ≤ ms.length → Q6 P n st (ms ++ more) = Q6 P n st ms
 | 0, _, _, _, _ => rfl
 | n + 1, st, ms, more, h => by
  rw [Q6, Q6, List.take_append_of_le_length (by omega), List.drop_append_of_le_length (by omega), Z35 P n _ _ _ (by rw [List.length_drop]; omega)]
theorem Z36 : ∀ (n : Nat) (st ms : List Int), W8 st → (∀ x ∈ ms, U8 x) → Q6 XM n st ms = Q6 W0 n st ms
 | 0, _, _, _, _ => rfl
 | n + 1, st, ms, hs, hm => by
  rw [Q6, Q6, Z6x st _ (fun x hx => hm x (List.mem_of_mem_take hx)) hs]
  exact Z36 n _ _ (Z6y st _ hs.1) fun x hx => hm x (List.mem_of_mem_drop hx)
structure Rep (r : Zx) (ms : List Int) : Prop where
 came : r.came = ms.length
 st : r.st = Q6 W0 (ms.length / 64) Ya.st ms
 len : r.part.length = 64
 part : r.part.take (ms.length % 64) = ms.drop (64 * (ms.length / 64))
theorem Rep.one {r : Zx} {ms : List Int} (h : Rep r ms) (bs : List Int) : Rep (r.one bs) (ms ++ wTk r.came bs) := by
 have ha : wAt r.came = ms.length % 64 := by
  unfold wAt
  rw [h.came, tm (by omega)]
  omega
 have hk : (wTk r.came bs).length ≤ 64 - ms.length % 64 := by
  unfold wTk
  rw [ha, List.length_take]
  omega
 have hdl : (ms.drop (64 * (ms.length / 64))).length = ms.length % 64 := by rw [List.length_drop]; omega
 have hp : Vz r.part r.came bs = ms.drop (64 * (ms.length / 64)) ++ wTk r.came bs ++ r.part.drop (ms.length % 64 + (wTk r.came bs).length) := by
  unfold Vz spl
  rw [ha, h.part]
 have hl : (Vz r.part r.came bs).length = 64 := by
  rw [hp, List.length_append, List.length_append, hdl, List.length_drop, h.len]
  omega
 have hst : (r.one bs).st = if ms.length % 64 + (wTk r.came bs).length = 64 then W0 r.st (Vz r.part r.came bs) else r.st := by
  show wSt _ _ _ _ = _
  unfold wSt
  rw [ha]
 have hca : (r.one bs).came = r.came + (wTk r.came bs).length := rfl
 have hpa : (r.one bs).part = Vz r.part r.came bs := rfl
 generalize wTk r.came bs = tk at *
 generalize Vz r.part r.came bs = pa at *
 have hal : (ms ++ tk).length = ms.length + tk.length := List.length_append
 refine ⟨by rw [hca, h.came, hal]; omega, ?_, by rw [hpa]; exact hl, ?_⟩
 ·rw [hst, h.st]
  by_cases h64 : ms.length % 64 + tk.length = 64
  ·rw [if_pos h64, hal, show (ms.length + tk.length) / 64 = ms.length / 64 + 1 by omega, Z10, Z35 _ _ _ _ _ (by omega)]
   congr 1
   rw [List.drop_append_of_le_length (by omega), hp, show r.part.drop (ms.length % 64 + tk.length) = [] from List.drop_eq_nil_of_le (by rw [h.len]; omega), List.append_nil, List.take_of_length_le (by rw [List.length_append, hdl]; omega)]
  ·rw [if_neg h64, hal, show (ms.length + tk.length) / 64 = ms.length / 64 by omega, Z35 _ _ _ _ _ (by omega)]
 ·rw [hpa, hal]
  by_cases h64 : ms.length % 64 + tk.length = 64
  ·rw [show (ms.length + tk.length) % 64 = 0 by omega, List.take_zero, List.drop_eq_nil_of_le (by rw [hal]; omega)]
  ·rw [show (ms.length + tk.length) / 64 = ms.length / 64 by omega, show (ms.length + tk.length) % 64 = ms.length % 64 + tk.length by omega, hp, List.drop_append_of_le_length (by omega)]
   rw [List.take_append_of_le_length (by rw [List.length_append, hdl]; omega)]
   exact List.take_of_length_le (by rw [List.length_append, hdl]; omega)
theorem Rep.many : ∀ (n : Nat) (r : Zx) (ms bs : List Int), r.Ok → Rep r ms → bs.length ≤ n → Rep (Zx.many n r bs).1 (ms ++ bs)
 | 0, r, ms, bs, _, h, hn => by
  have : bs = [] := List.eq_nil_of_length_eq_zero (by omega)
  subst this
  rw [List.append_nil]
  exact h
 | n + 1, r, ms, bs, hr, h, hn => by
  unfold Zx.many
  split
  ·rw [List.append_nil]; exact h
  ·rename_i b bs
   have hp := UU hr (bs := b :: bs) (by simp)
   have hb : (b :: bs) = wTk r.came (b :: bs) ++ (b :: bs).drop (wTk r.came (b :: bs)).length := by
    unfold wTk
    rw [List.length_take]
    by_cases h : 64 - wAt r.came ≤ (b :: bs).length
    ·rw [Nat.min_eq_left h, List.take_append_drop]
    ·rw [Nat.min_eq_right (by omega), List.take_of_length_le (by omega), List.drop_length, List.append_nil]
   have := Rep.many n _ _ ((b :: bs).drop (wTk r.came (b :: bs)).length) (hr.one _) (h.one (b :: bs)) (by rw [List.length_drop]; simp only [List.length_cons] at hn ⊢; omega)
   rw [List.append_assoc, ← hb] at this
   exact this
theorem Rep.write {r : Zx} {ms : List Int} (hr : r.Ok) (h : Rep r ms) (bs : List Int) : Rep (r.write bs) (ms ++ bs) := by
 unfold Zx.write
 exact Rep.many _ _ _ _ hr h (Nat.le_refl _)
theorem Rep.init : Rep Ya [] := ⟨rfl, rfl, rfl, rfl⟩
def Z11 (bs : List Int) : List Int := bs ++ Q4 bs.length ++ len8 bs.length
def Z8a (P : List Int → List Int → List Int) (bs : List Int) : List Int := Z44 (Q6 P ((Z11 bs).length / 64) Ya.st (Z11 bs))
theorem Rep.fin {r : Zx} {ms : List Int} (hr : r.Ok) (h : Rep r ms) : r.fin = Z8a W0 ms := by
 have h1 := h.write hr (Q4 r.came)
 have h2 := h1.write (YH _ _ hr) (len8 r.came)
 unfold Zx.fin Z8a
 rw [h2.st, h.came]
 rfl
theorem Z37 (bs : List Int) : YT bs = Z8a W0 bs := by
 unfold YT
 have := Rep.init.write X0 bs
 exact this.fin (YH _ _ X0)
theorem Z6z : W8 Ya.st := by
 refine ⟨rfl, fun x hx => ?_⟩
 simp only [Ya, List.mem_cons, List.not_mem_nil, or_false] at hx
 unfold U32
 rcases hx with rfl | rfl | rfl | rfl | rfl | rfl | rfl | rfl <;> omega
theorem Zf1 (n : Int) : ∀ x ∈ Q4 n, U8 x := by
 intro x hx
 unfold Q4 at hx
 rcases List.mem_append.mp hx with h | h
 ·rw [List.mem_singleton] at h
  subst h
  unfold U8; omega
 ·rw [List.eq_of_mem_replicate h]
  unfold U8; omega
theorem ZcC (x : Int) : U8 (u8.wrap x) := by rw [wr8]; unfold U8; omega
theorem Zf2 (n : Int) : ∀ x ∈ len8 n, U8 x := by
 intro x hx
 unfold len8 Qj at hx
 simp only [List.mem_cons, List.not_mem_nil, or_false] at hx
 rcases hx with h | h | h | h | h | h | h | h <;> rw [h] <;> exact ZcC _
theorem ZaC {bs : List Int} (h : ∀ x ∈ bs, U8 x) : ∀ x ∈ Z11 bs, U8 x := by
 intro x hx
 unfold Z11 at hx
 rcases List.mem_append.mp hx with h1 | h1
 ·rcases List.mem_append.mp h1 with h2 | h2
  ·exact h x h2
  ·exact Zf1 _ x h2
 ·exact Zf2 _ x h1
theorem ZcD (n : Int) : ∀ x ∈ V4 n, U8 x := by
 intro x hx
 unfold V4 at hx
 simp only [List.mem_cons, List.not_mem_nil, or_false] at hx
 rcases hx with h | h | h | h <;> rw [h] <;> exact ZcC _
theorem ZcE (st : List Int) : ∀ x ∈ Z44 st, U8 x := by
 intro x hx
 unfold Z44 at hx
 simp only [List.mem_append] at hx
 rcases hx with (((((((h | h) | h) | h) | h) | h) | h) | h) <;> exact ZcD _ x h
theorem Z9h (bs : List Int) : ∀ x ∈ YT bs, U8 x := by rw [Z37]; exact ZcE _
end Go.Tk
end
section
namespace Go.Tk
open IntKind (i64 u8 u32 u64 wrap)
theorem Zf3 : UY XM := ⟨fun st bl h => Z6s st bl h, fun _ _ h => Z5i h⟩
theorem ZcF (x : List Int) (i : Nat) : toN x (i + 1) = ((((toN x i).set (4 * i) (u8.wrap (u32.wrap (Int.tdiv (x.getD i 0) 16777216)))).set (4 * i + 1) (toE (x.getD i 0) 65536)).set (4 * i + 2) (toE (x.getD i 0) 256)).set (4 * i + 3) (u8.wrap (Int.tmod (x.getD i 0) 256)) := by rw [toN]
theorem ZcG (x : List Int) : toN x 0 = Z5 := by rw [toN]
def four (x : Int) : List Int := [u8.wrap (u32.wrap (Int.tdiv x 16777216)), toE x 65536, toE x 256, u8.wrap (Int.tmod x 256)]
theorem ZaD (x : List Int) : (U6 x).length = 32 := by unfold U6; exact Z5j x 8
theorem Z8b (x : List Int) (h : x.length = 8) : U6 x = four (x.getD 0 0) ++ four (x.getD 1 0) ++ four (x.getD 2 0) ++ four (x.getD 3 0) ++ four (x.getD 4 0) ++ four (x.getD 5 0) ++ four (x.getD 6 0) ++ four (x.getD 7 0) := by
 unfold U6
 simp only [ZcF, ZcG]
 generalize x.getD 0 0 = x0
 generalize x.getD 1 0 = x1
 generalize x.getD 2 0 = x2
 generalize x.getD 3 0 = x3
 generalize x.getD 4 0 = x4
 generalize x.getD 5 0 = x5
 generalize x.getD 6 0 = x6
 generalize x.getD 7 0 = x7
 kernel_rfl
theorem Zf4 (x : Int) : u64.wrap x = x % 18446744073709551616 := by
 unfold wrap
 simp [IntKind.bits, IntKind.signed]
theorem Z6A (x n : Nat) (hn : n ≤ 64) : ZA .u64 x n = ((x / 2 ^ n : Nat) : Int) := by
 unfold ZA
 have : min (n : Int).toNat u64.bits = n := by simp [IntKind.bits]; omega
 rw [this, Int.fdiv_eq_ediv_of_nonneg _ (Int.le_of_lt (Int.pow_pos (by decide)))]
 simp
theorem Xz {x : Int} (h : U32 x) : four x = V4 (u64.wrap x) := by
 obtain ⟨x, rfl, gx⟩ := h.nat
 have e : u64.wrap (x : Int) = x := by rw [Zf4]; omega
 have s24 := Z6A x 24 (by omega)
 have s16 := Z6A x 16 (by omega)
 have s8 := Z6A x 8 (by omega)
 have s0 := Z6A x 0 (by omega)
 rw [show ((24 : Nat) : Int) = 24 from rfl] at s24
 rw [show ((16 : Nat) : Int) = 16 from rfl] at s16
 rw [show ((8 : Nat) : Int) = 8 from rfl] at s8
 rw [show ((0 : Nat) : Int) = 0 from rfl] at s0
 have d1 : Int.tdiv (x : Int) 16777216 = (x : Int) / 16777216 := Int.tdiv_eq_ediv_of_nonneg (by omega)
 have d2 : Int.tdiv (x : Int) 65536 = (x : Int) / 65536 := Int.tdiv_eq_ediv_of_nonneg (by omega)
 have d3 : Int.tdiv (x : Int) 256 = (x : Int) / 256 := Int.tdiv_eq_ediv_of_nonneg (by omega)
 unfold four V4 toE
 rw [e, s24, s16, s8, s0, d1, d2, d3]
 simp only [wr8, Z6v]
 rw [tm (a := (x : Int) / 65536 % 4294967296) (by omega), tm (a := (x : Int) / 256 % 4294967296) (by omega), tm (a := (x : Int)) (by omega)]
 simp only [List.cons.injEq, and_true]
 omega
theorem Z8c {x : List Int} (h : W8 x) : U6 x = Z44 x := by
 rw [Z8b x h.1]
 unfold Z44
 rw [Xz (h.get 0), Xz (h.get 1), Xz (h.get 2), Xz (h.get 3), Xz (h.get 4), Xz (h.get 5), Xz (h.get 6), Xz (h.get 7)]
theorem XA (n : Nat) (i : Nat) (hi : i < 8) : ZeO n i = u8.wrap (ZA .u64 (u64.wrap (u64.wrap n * 8)) ((56 - 8 * i : Nat) : Int)) := by
 unfold ZeO
 have e1 : i64.wrap (8 * (i : Int)) = 8 * (i : Int) := w64 (by omega)
 have e2 : i64.wrap (56 - 8 * (i : Int)) = ((56 - 8 * i : Nat) : Int) := by rw [w64 (by omega)]; omega
 have e3 : u64.wrap ((56 - 8 * i : Nat) : Int) = ((56 - 8 * i : Nat) : Int) := by rw [Zf4]; omega
 rw [e1, e2, e3]
 obtain ⟨m, hm⟩ : ∃ m : Nat, u64.wrap (u64.wrap n * 8) = m := ⟨(u64.wrap (u64.wrap n * 8)).toNat, by rw [Zf4, Zf4]; omega⟩
 rw [hm, Z6A m _ (by omega)]
 generalize m / 2 ^ (56 - 8 * i) = q
 rw [tm (by omega), wr8, wr8]
 omega
theorem ZaE (n : Nat) : XP n 8 = len8 n := by
 simp only [XP, List.nil_append, List.cons_append]
 unfold len8 Qj
 rw [XA n 0 (by omega), XA n 1 (by omega), XA n 2 (by omega), XA n 3 (by omega), XA n 4 (by omega), XA n 5 (by omega), XA n 6 (by omega), XA n 7 (by omega)]
 rfl
theorem ZaF (n : Nat) (h : n ≤ 100000000000) : [128] ++ Z1w n = Q4 n := by
 unfold Z1w Q4
 have e1 : Int.tmod (n : Int) 64 = (n : Int) % 64 := tm (by omega)
 have e2 : i64.wrap (119 - (n : Int) % 64) = 119 - (n : Int) % 64 := w64 (by omega)
 rw [ZeQ n h, e1, e2, tm (by omega)]
 congr 2
 omega
theorem ZcH (bs : List Int) (h : bs.length ≤ 100000000000) : UC bs = Z11 bs := by
 unfold UC Z11
 rw [ZaE, List.append_assoc bs, ZaF _ h]
theorem Z4q (P : List Int → List Int → List Int) (ys : List Int) : ∀ i, Q5 P ys i = Q6 P i Ya.st ys
 | 0 => Z4k P ys
 | i + 1 => by rw [Z4l, Z10, Z4q P ys i]
theorem Z9i : ∀ (n : Nat) (st ms : List Int), W8 st → W8 (Q6 W0 n st ms)
 | 0, _, _, h => h
 | n + 1, st, _, h => Z9i n _ _ (Z6y st _ h.1)
@[irreducible] def WQ (bs : List Int) : List Int := Zcz XM bs
theorem Z0o (bs : List Int) : (WQ bs).length = 32 := by unfold WQ Zcz; exact ZaD _
theorem Z9j {bs : List Int} (h : ∀ x ∈ bs, U8 x) (hl : bs.length ≤ 100000000000) : WQ bs = YT bs := by
 unfold WQ Zcz
 rw [Z4q, ZcH bs hl, Z36 _ _ _ Z6z (ZaC h), Z8c (Z9i _ _ _ Z6z), Z37]
 rfl
theorem Z12 (xs : List Int) (h : xs.length ≤ 100000000000) : ZB PP 91 [.vints .u8 xs xs.length] (.agg [.arr .u8 32 (WQ xs)]) 0 [] := by
 unfold WQ
 exact Zax Zf3 xs h
theorem ZcI {a b : List Int} (ha : ∀ x ∈ a, U8 x) (hb : ∀ x ∈ b, U8 x) : ∀ x ∈ a ++ b, U8 x := fun x hx => (List.mem_append.mp hx).elim (ha x) (hb x)
theorem ZaG : ∀ x ∈ Vi, U8 x := by
 intro x hx
 unfold Vi at hx
 simp only [List.mem_cons, List.not_mem_nil, or_false] at hx
 unfold U8
 rcases hx with rfl | rfl | rfl | rfl | rfl <;> omega
theorem ZcJ {s : List Int} (hs : s.length = 32) (hU : ∀ x ∈ s, U8 x) : YS WQ s = XJ s := by
 have e1 : WQ [112, 111, 105, 110, 116] = YT Vi := Z9j ZaG (by decide)
 unfold YS
 rw [e1, Z9j (ZcI (ZcI (Z9h _) (Z9h _)) hU) (by rw [List.length_append, List.length_append, Uw, hs]; decide), Z37]
 unfold XJ
 have h1 := Rep.init.write X0 (YT Vi)
 have o1 := YH Ya (YT Vi) X0
 have h2 := h1.write o1 (YT Vi)
 have o2 := YH _ (YT Vi) o1
 have h3 := h2.write o2 s
 rw [h3.fin (YH _ _ o2), List.nil_append]
end Go.Tk
end
section
namespace Go.Tk
open IntKind (i64 u8 u32 u64 wrap)
end Go.Tk
end
section
namespace Go.Tk
open IntKind (i64 u8 u32 u64 wrap)
end Go.Tk
end
section
namespace Go.Tk
open IntKind (i64 u8 u32 u64 wrap)
theorem Bytes.u8 {xs : List Int} (h : Bytes xs) : ∀ x ∈ xs, U8 x := by
 intro x hx
 obtain ⟨i, hi, rfl⟩ := List.getElem_of_mem hx
 have := h.h i
 rw [List.getD_eq_getElem?_getD, List.getElem?_eq_getElem hi] at this
 simp at this
 unfold U8
 omega
theorem Z8d (a : List Int) : (YS WQ a).length = 32 := by unfold YS; exact Z0o _
theorem QQ (key : List Int) (t : TxS) : YU key t = V5 key (Ys t) := by unfold YU Ys; rfl
@[irreducible] def YY (t : TxS) (at_ : Int) (o : Zs) (since height : Int) : Int := Uz ZS Ys V5 YT XJ ZL t at_ o since height
theorem Z13 (args : List AV) (h : Z7) (K : AV → Prop) (hl : U2 YY args h K) : Zk PP 23 args h fun o h' => ∃ v, o = .ret v ∧ h' = h ∧ K v := Zar args h K (by
 have e : YY = Uz ZS Ys V5 YT XJ ZL := by funext t a o s h; unfold YY; rfl
 rw [e] at hl; exact hl)
end Go.Tk
end
section
namespace Go.Tk
open IntKind (i64 u8 u32 u64 wrap)
structure Zo where
 fund : List Int
 index : Int
 cap : Int
 dust : Int
 fee : Int
 delay : Int
 k0 : List Int
 k1 : List Int
def Zo.c (t : Zo) : List AV := [.arr .u8 32 t.fund, .int .i64 t.index, .int .i64 t.cap, .int .i64 t.dust, .int .i64 t.fee, .int .i64 t.delay, .arr .u8 32 t.k0, .arr .u8 32 t.k1]
structure Zo.Ok (t : Zo) : Prop where
 k0 : t.k0.length = 32
 k1 : t.k1.length = 32
 b0 : Bytes t.k0
 b1 : Bytes t.k1
def Xf (t : Zo) : Bool := decide (0 ≤ t.index ∧ t.index ≤ 23) && decide (1000 ≤ t.cap ∧ t.cap ≤ 1125899906842624) && decide (1 ≤ t.dust ∧ t.dust ≤ 500) && decide (0 ≤ t.fee ∧ t.fee ≤ 400) && decide (1 ≤ t.delay ∧ t.delay ≤ 1000) && (t.k0 != t.k1)
theorem Z6B (b : Bool) (x y : Prop) : Z0 b x y = ((b = true → x) ∧ (b = false → y)) := by cases b <;> simp [Z0]
theorem Zj8 (n a b : Int) (r : Bool) (hr : r = decide (a ≤ n ∧ n ≤ b)) :
  evF G0 20 37 [.int .i64 n, .int .i64 a, .int .i64 b] ⟨0, []⟩ (Z0k (fun v => v = .bool r)) := by
 refine @Eq.mpr _ (Z0 (decide (a ≤ n)) (AV.bool (decide (n ≤ b)) = AV.bool r) (AV.bool false = AV.bool r)) (by kernel_rfl) ?_
 simp only [Z6B]
 subst hr
 by_cases h1 : a ≤ n <;> by_cases h2 : n ≤ b <;> simp [h1, h2]
def inQ : ZW := fun args _ K => match args with
 | [.int .i64 n, .int .i64 a, .int .i64 b] => K (.bool (decide (a ≤ n ∧ n ≤ b)))
 | _ => False
theorem ZcK (args : List AV) (h : Z7) (K : AV → Prop) (hl : inQ args h K) : Zk PP 37 args h fun o h' => ∃ v, o = .ret v ∧ h' = h ∧ K v := by
 unfold inQ at hl
 split at hl
 ·exact XL Zu rfl (Zj8 _ _ _ _ rfl) (fun u hu => hu ▸ hl)
 ·exact hl.elim
noncomputable def E71 : Zd := G0.withP 37 inQ
theorem ZcL : E71.Ok := Zd.withP_ok Zu ZcK
theorem Zj9 (t : Zo) (e : Int) (ht : t.Ok) (he : e = if Xf t = true then 0 else 2) :
  evF E71 20 35 [.agg t.c] ⟨0, []⟩ (Z0k (fun v => v = .int .i64 e)) := by
 refine @Eq.mpr _ (let q1 := AV.int i64 2 = AV.int i64 e;
 Z0 (decide (List.length t.k0 = 32 ∧ List.length t.k1 = 32)) (Z0 (false == decide (0 ≤ t.index ∧ t.index ≤ 23)) q1 (Z0 (false == decide (1000 ≤ t.cap ∧ t.cap ≤ 1125899906842624)) q1 (Z0 (false == decide (1 ≤ t.dust ∧ t.dust ≤ 500)) q1 (Z0 (false == decide (0 ≤ t.fee ∧ t.fee ≤ 400)) q1 (Z0 (false == decide (1 ≤ t.delay ∧ t.delay ≤ 1000)) q1 (Z0 (false == !t.k0 == t.k1) q1 (AV.int i64 0 = AV.int i64 e))))))) False) (by kernel_rfl) ?_
 conv => zeta
 try simp only [Zg]
 try simp only [Zl]
 try simp only [Zh]
 try simp only [Zm]
 try simp only [Zn]
 try simp only [Zf]
 try simp only [Int.toNat_natCast, Nat.zero_add, true_and, and_true, Nat.le_refl]
 unfold Xf at he
 refine ⟨⟨ht.k0, ht.k1⟩, ?_⟩
 generalize decide (0 ≤ t.index ∧ t.index ≤ 23) = c1 at *
 generalize decide (1000 ≤ t.cap ∧ t.cap ≤ 1125899906842624) = c2 at *
 generalize decide (1 ≤ t.dust ∧ t.dust ≤ 500) = c3 at *
 generalize decide (0 ≤ t.fee ∧ t.fee ≤ 400) = c4 at *
 generalize decide (1 ≤ t.delay ∧ t.delay ≤ 1000) = c5 at *
 have h6 : (t.k0 != t.k1) = !(t.k0 == t.k1) := rfl
 rw [h6] at he
 generalize (t.k0 == t.k1) = c6 at *
 cases c1 <;> cases c2 <;> cases c3 <;> cases c4 <;> cases c5 <;> cases c6 <;> simp_all
def Z6C : ZW := fun args _ K => match args with
 | [.agg [.arr .u8 32 fu, .int .i64 ix, .int .i64 ca, .int .i64 du, .int .i64 fe, .int .i64 de, .arr .u8 32 k0, .arr .u8 32 k1]] => (Zo.Ok ⟨fu, ix, ca, du, fe, de, k0, k1⟩) ∧ K (.int .i64 (if Xf ⟨fu, ix, ca, du, fe, de, k0, k1⟩ = true then 0 else 2))
 | _ => False
theorem Z6D (args : List AV) (h : Z7) (K : AV → Prop) (hl : Z6C args h K) : Zk PP 35 args h fun o h' => ∃ v, o = .ret v ∧ h' = h ∧ K v := by
 unfold Z6C at hl
 split at hl
 ·obtain ⟨ht, hK⟩ := hl
  exact XL ZcL rfl (Zj9 ⟨_, _, _, _, _, _, _, _⟩ _ ht rfl) (fun u hu => hu ▸ hK)
 ·exact hl.elim
def XB (t : Zo) : Zs := ⟨2, t.cap, if XD t.k0 t.k1 > 0 then t.k1 else t.k0, if XD t.k0 t.k1 > 0 then t.k0 else t.k1, Z5, Z5, 0, 0⟩
def Zja : Zs := ⟨0, 0, Z5, Z5, Z5, Z5, 0, 0⟩
theorem Zjb (t : Zo) (o : Zs) (e : Int) (ht : t.Ok) (ho : o = if Xf t = true then XB t else Zja) (he : e = if Xf t = true then 0 else 2) :
  evF (G0.withP 35 Z6C) 20 24 [.agg t.c] ⟨0, []⟩ (Z0k (fun v => v = .tuple [.agg o.c, .int .i64 e])) := by
 refine @Eq.mpr _ (let q1 := t.k0;
 let q2 := t.k1;
 let q3 := Zo.mk t.fund t.index t.cap t.dust t.fee t.delay q1 q2;
 let q4 := if Xf q3 = true then 0 else 2;
 let q5 := AV.int i64 0;
 let q6 := AV.arr u8 32 Z5;
 let q7 := [q5];
 let q8 := q6 :: q6 :: q5 :: q7;
 let q9 := AV.tuple [AV.agg (Zs.c o), AV.int i64 e];
 let q10 := AV.int i64 t.cap;
 let q11 := AV.arr u8 32 q2;
 let q12 := AV.arr u8 32 q1;
 Zo.Ok q3 ∧ Z0 (q4 != 0) (AV.tuple [AV.agg (q5 :: q5 :: q6 :: q6 :: q8), AV.int i64 q4] = q9) (Z0 (decide (u8 = u8 ∧ List.length q1 = 32)) (Z0 (decide (u8 = u8 ∧ List.length q2 = 32)) (Z0 (decide (XD q1 q2 > 0)) (q1 = q1 ∧ AV.tuple (AV.agg (AV.int i64 2 :: q10 :: q11 :: q12 :: q8) :: q7) = q9) (q2 = q2 ∧ AV.tuple (AV.agg (AV.int i64 2 :: q10 :: q12 :: q11 :: q8) :: q7) = q9)) False) False)) (by kernel_rfl) ?_
 conv => zeta
 try simp only [Zg]
 try simp only [Zl]
 try simp only [Zh]
 try simp only [Zm]
 try simp only [Zn]
 try simp only [Zf]
 try simp only [Int.toNat_natCast, Nat.zero_add, true_and, and_true, Nat.le_refl]
 have e0 : (Zo.mk t.fund t.index t.cap t.dust t.fee t.delay t.k0 t.k1) = t := rfl
 rw [e0]
 refine ⟨ht, fun h => ?_, fun h => ?_⟩
 ·cases hb : Xf t with
  | true => rw [hb] at h; simp at h
  | false => rw [hb] at ho he; rw [ho, he]; rfl
 ·cases hb : Xf t with
  | false => rw [hb] at h; simp at h
  | true =>
   rw [hb] at ho he
   refine ⟨ht.k0, ht.k1, fun hc => ?_, fun hc => ?_⟩
   ·rw [ho, he]; simp [XB, hc, Zs.c]
   ·rw [ho, he]; simp [XB, hc, Zs.c]
def Z6E : ZW := fun args _ K => match args with
 | [.agg [.arr .u8 32 fu, .int .i64 ix, .int .i64 ca, .int .i64 du, .int .i64 fe, .int .i64 de, .arr .u8 32 k0, .arr .u8 32 k1]] => (Zo.Ok ⟨fu, ix, ca, du, fe, de, k0, k1⟩) ∧ Z0 (Xf ⟨fu, ix, ca, du, fe, de, k0, k1⟩) (K (.tuple [.agg (XB ⟨fu, ix, ca, du, fe, de, k0, k1⟩).c, .int .i64 0])) (K (.tuple [.agg Zja.c, .int .i64 2]))
 | _ => False
theorem Z6F (args : List AV) (h : Z7) (K : AV → Prop) (hl : Z6E args h K) : Zk PP 24 args h fun o h' => ∃ v, o = .ret v ∧ h' = h ∧ K v := by
 unfold Z6E at hl
 split at hl
 ·obtain ⟨ht, hK⟩ := hl
  rw [Z6B] at hK
  refine XL (Zd.withP_ok Zu Z6D) rfl (Zjb ⟨_, _, _, _, _, _, _, _⟩ _ _ ht rfl rfl) (fun u hu => ?_)
  subst hu
  cases hb : Xf ⟨_, _, _, _, _, _, _, _⟩ with
  | true => rw [if_pos rfl, if_pos rfl]; exact hK.1 hb
  | false => rw [if_neg (by decide), if_neg (by decide)]; exact hK.2 hb
 ·exact hl.elim
def Va : ZW := fun args _ K => match args with
 | [] => K (.bool true)
 | _ => False
end Go.Tk
end
section
namespace Go.Tk
open IntKind (i64 u8 u32 u64 wrap)
def VI {α : Type} (lt : α → α → Bool) (x : α) : List α → List α
 | [] => [x]
 | y :: r => match lt x y with
  | true => x :: y :: r
  | false => y :: VI lt x r
def Yx {α : Type} (lt : α → α → Bool) : List α → List α → List α
 | acc, [] => acc
 | acc, x :: r => Yx lt (VI lt x acc) r
def Wm {α : Type} (lt : α → α → Bool) (l : List α) : Prop := l.Pairwise fun a b => lt b a = false
structure WO {α : Type} (lt : α → α → Bool) : Prop where
 asym : ∀ x y, lt x y = true → lt y x = false
 neg : ∀ x y z, lt x y = true → lt z y = false → lt x z = true
theorem Z6G {α : Type} {lt : α → α → Bool} {x z : α} : ∀ {l : List α}, z ∈ VI lt x l ↔ z = x ∨ z ∈ l
 | [] => by simp [VI]
 | y :: r => by
  unfold VI
  split
  ·simp
  ·simp only [List.mem_cons, Z6G (l := r)]
   constructor <;> (intro h; rcases h with h | h | h <;> simp [h])
theorem Z4r {α : Type} {lt : α → α → Bool} {x : α} : ∀ {l : List α}, (VI lt x l).Perm (x :: l)
 | [] => .refl _
 | y :: r => by
  unfold VI
  split
  ·exact .refl _
  ·exact (List.Perm.cons y Z4r).trans (List.Perm.swap x y r)
theorem Z6H {α : Type} {lt : α → α → Bool} (wo : WO lt) {x : α} : ∀ {l : List α}, Wm lt l → Wm lt (VI lt x l)
 | [], _ => by simp [VI, Wm]
 | y :: r, h => by
  unfold Wm at h
  rw [List.pairwise_cons] at h
  unfold VI
  split
  ·rename_i hx
   unfold Wm
   rw [List.pairwise_cons, List.pairwise_cons]
   refine ⟨fun z hz => ?_, h.1, h.2⟩
   rcases List.mem_cons.1 hz with rfl | hz
   ·exact wo.asym _ _ hx
   ·cases hzx : lt z x with
    | false => rfl
    | true =>
     have := h.1 z hz
     -- z < x < y, so z < y
     have h2 := wo.neg z x y hzx (wo.asym _ _ hx)
     rw [h2] at this; cases this
  ·rename_i hx
   unfold Wm
   rw [List.pairwise_cons]
   refine ⟨fun z hz => ?_, Z6H wo h.2⟩
   rcases Z6G.1 hz with rfl | hz
   ·exact hx
   ·exact h.1 z hz
theorem Z5o {α : Type} {lt : α → α → Bool} (wo : WO lt) {x : α} : ∀ {l : List α} {j : Nat}, Wm lt l → j ≤ l.length → (∀ y ∈ l.drop j, lt x y = true) → (∀ y, l[j - 1]? = some y → 0 < j → lt x y = false) →
  l.take j ++ x :: l.drop j = VI lt x l
 | [], j, _, hj, _, _ => by simp at hj; simp [VI]
 | y :: r, 0, _, _, h1, _ => by
  have := h1 y (by simp)
  unfold VI
  rw [this]; simp
 | y :: r, j + 1, ho, hj, h1, h2 => by
  unfold Wm at ho
  rw [List.pairwise_cons] at ho
  have hy : lt x y = false := by
   cases hxy : lt x y with
   | false => rfl
   | true =>
    cases j with
    | zero => rw [h2 y (by simp) (by omega)] at hxy; cases hxy
    | succ k =>
     simp at hj
     have hk : k < r.length := by omega
     have h3 := h2 r[k] (by simp [hk]) (by omega)
     have h4 := ho.1 r[k] (List.getElem_mem hk)
     rw [wo.neg x y _ hxy h4] at h3; cases h3
  unfold VI
  rw [hy]
  simp only [List.take_succ_cons, List.drop_succ_cons, List.cons_append, List.cons.injEq, true_and]
  refine Z5o wo ho.2 (by simpa using hj) (by simpa using h1) fun z hz hj' => h2 z ?_ (by omega)
  cases j with
  | zero => omega
  | succ k => simpa using hz
theorem Ws {α : Type} {lt : α → α → Bool} (wo : WO lt) : ∀ {l acc : List α}, Wm lt acc → Wm lt (Yx lt acc l)
 | [], _, h => h
 | _ :: _, _, h => by unfold Yx; exact Ws wo (Z6H wo h)
theorem YZ {α : Type} {lt : α → α → Bool} : ∀ {l acc : List α}, (Yx lt acc l).Perm (acc ++ l)
 | [], acc => by simp [Yx]
 | x :: r, acc => by
  unfold Yx
  refine YZ.trans ?_
  refine (List.Perm.append_right r Z4r).trans ?_
  rw [List.cons_append]
  exact List.perm_middle.symm
theorem Z14 {α : Type} {lt : α → α → Bool} {l acc : List α} : (Yx lt acc l).length = acc.length + l.length := by
 rw [(YZ (lt := lt)).length_eq, List.length_append]
theorem QR {α : Type} {lt : α → α → Bool} {x : α} : ∀ {l acc : List α}, Yx lt acc (l ++ [x]) = VI lt x (Yx lt acc l)
 | [], acc => rfl
 | y :: r, acc => by
  simp only [List.cons_append, Yx]
  exact QR
theorem UE {α : Type} {lt : α → α → Bool} : ∀ {l m : List α}, l.Perm m → Wm lt l → Wm lt m → (∀ a ∈ l, ∀ b ∈ l, lt a b = false → lt b a = false → a = b) → l = m
 | [], m, hp, _, _, _ => by simpa using hp.symm
 | x :: r, [], hp, _, _, _ => by simp at hp
 | x :: r, y :: q, hp, hl, hm, hu => by
  unfold Wm at hl hm
  rw [List.pairwise_cons] at hl hm
  have hyx : y = x := by
   by_cases e : y = x
   ·exact e
   ·have hx : x ∈ q := by
     have := hp.subset (List.mem_cons_self ..)
     rcases List.mem_cons.1 this with h | h
     ·exact absurd h.symm e
     ·exact h
    have hy : y ∈ r := by
     have := hp.symm.subset (List.mem_cons_self ..)
     rcases List.mem_cons.1 this with h | h
     ·exact absurd h e
     ·exact h
    exact hu y (List.mem_cons_of_mem _ hy) x (List.mem_cons_self ..) (hl.1 y hy) (hm.1 x hx)
  subst hyx
  rw [List.perm_cons] at hp
  rw [UE hp hl.2 hm.2 fun a ha b hb => hu a (List.mem_cons_of_mem _ ha) b (List.mem_cons_of_mem _ hb)]
end Go.Tk
end
section
namespace Go.Tk
open IntKind (i64 u8 u32 u64 wrap)
def YA : List Int → Nat
 | [] => 0
 | a :: r => (Wh a).toNat * 256 ^ r.length + YA r
theorem Z0p : ∀ (x : List Int), YA x < 256 ^ x.length
 | [] => by simp [YA]
 | a :: r => by
  have h1 := Z0p r
  have h2 := (Wh a).toNat_lt
  simp only [YA, List.length_cons, Nat.pow_succ]
  have h3 : (Wh a).toNat * 256 ^ r.length ≤ 255 * 256 ^ r.length := Nat.mul_le_mul_right _ (by omega)
  omega
theorem Z6I : ∀ (x y : List Int), x.length = y.length → XD x y = if YA x < YA y then -1 else if YA y < YA x then 1 else 0
 | [], [], _ => by simp [XD, Lib.compareBytes, YA]
 | [], b :: s, h => by simp at h
 | a :: r, [], h => by simp at h
 | a :: r, b :: s, h => by
  have h' : r.length = s.length := by simpa using h
  have ih := Z6I r s h'
  have e1 : YA (a :: r) = (Wh a).toNat * 256 ^ r.length + YA r := rfl
  have e2 : YA (b :: s) = (Wh b).toNat * 256 ^ r.length + YA s := by rw [h']; rfl
  have e3 : XD (a :: r) (b :: s) = if (Wh a).toNat < (Wh b).toNat then -1 else if (Wh b).toNat < (Wh a).toNat then 1 else XD r s := by
   unfold XD; simp only [List.map_cons, Lib.compareBytes, UInt8.lt_iff_toNat_lt]
  have h1 := Z0p r
  have h2 := Z0p s
  rw [← h'] at h2
  rw [e3]
  generalize YA (a :: r) = A at *
  generalize YA (b :: s) = B at *
  generalize (Wh a).toNat = u at *
  generalize (Wh b).toNat = v at *
  generalize hM : 256 ^ r.length = M at *
  have hs : ∀ p q : Nat, p < q → p * M + M ≤ q * M := fun p q hpq => by
   have : (p + 1) * M ≤ q * M := Nat.mul_le_mul_right _ hpq
   rw [Nat.add_mul, Nat.one_mul] at this
   exact this
  by_cases c1 : u < v
  ·have := hs u v c1
   rw [if_pos c1, if_pos (by omega)]
  ·rw [if_neg c1]
   by_cases c2 : v < u
   ·have := hs v u c2
    rw [if_pos c2, if_neg (by omega), if_pos (by omega)]
   ·rw [if_neg c2, ih]
    have : u = v := by omega
    subst this
    simp only [show (A < B) = (YA r < YA s) from propext (by omega), show (B < A) = (YA s < YA r) from propext (by omega)]
structure Ze where
 o : Zs
 id : Int
 what : Int
def Ze.c (m : Ze) : List AV := [.int .i64 m.o.kind, .int .i64 m.o.amount, .arr .u8 32 m.o.owner, .arr .u8 32 m.o.other, .arr .u8 32 m.o.point, .arr .u8 32 m.o.hash, .int .i64 m.o.delay, .int .i64 m.o.expiry, .int .i64 m.id, .int .i64 m.what]
structure Ze.Ok (m : Ze) : Prop where
 owner : m.o.owner.length = 32
 other : m.o.other.length = 32
 point : m.o.point.length = 32
 hash : m.o.hash.length = 32
def ZI : Ze := ⟨⟨0, 0, [], [], [], [], 0, 0⟩, 0, 0⟩
def VJ (a b : Int) : Int := if a < b then -1 else if b < a then 1 else 0
def ZaH (a b : Ze) : Int :=
 if VJ a.o.amount b.o.amount ≠ 0 then VJ a.o.amount b.o.amount else
 if VJ a.o.kind b.o.kind ≠ 0 then VJ a.o.kind b.o.kind else
 if VJ a.o.expiry b.o.expiry ≠ 0 then VJ a.o.expiry b.o.expiry else
 if XD a.o.hash b.o.hash ≠ 0 then XD a.o.hash b.o.hash else VJ a.id b.id
def ltM (a b : Ze) : Bool := decide (a.o.amount < b.o.amount ∨ (a.o.amount = b.o.amount ∧ (a.o.kind < b.o.kind ∨ (a.o.kind = b.o.kind ∧ (a.o.expiry < b.o.expiry ∨ (a.o.expiry = b.o.expiry ∧ (YA a.o.hash < YA b.o.hash ∨ (YA a.o.hash = YA b.o.hash ∧ a.id < b.id))))))))
theorem Wt (a b : Int) : (a < b ∧ VJ a b = -1) ∨ (b < a ∧ VJ a b = 1) ∨ (a = b ∧ VJ a b = 0) := by unfold VJ; omega
theorem UZ {x y : List Int} (h : x.length = y.length) : (YA x < YA y ∧ XD x y = -1) ∨ (YA y < YA x ∧ XD x y = 1) ∨ (YA x = YA y ∧ XD x y = 0) := by
 rw [Z6I x y h]; omega
theorem Zf5 {a b : Ze} (ha : a.Ok) (hb : b.Ok) : decide (ZaH a b < 0) = ltM a b := by
 unfold ZaH ltM
 have h1 := Wt a.o.amount b.o.amount
 have h2 := Wt a.o.kind b.o.kind
 have h3 := Wt a.o.expiry b.o.expiry
 have h4 := UZ (ha.hash.trans hb.hash.symm)
 have h5 := Wt a.id b.id
 rw [decide_eq_decide]
 generalize VJ a.o.amount b.o.amount = c1 at *
 generalize VJ a.o.kind b.o.kind = c2 at *
 generalize VJ a.o.expiry b.o.expiry = c3 at *
 generalize XD a.o.hash b.o.hash = c4 at *
 generalize VJ a.id b.id = c5 at *
 generalize YA a.o.hash = v1 at *
 generalize YA b.o.hash = v2 at *
 omega
theorem Z5p : WO ltM where
 asym x y h := by
  unfold ltM at *
  simp only [decide_eq_true_eq, decide_eq_false_iff_not] at *
  generalize YA x.o.hash = v1 at *
  generalize YA y.o.hash = v2 at *
  omega
 neg x y z h h2 := by
  unfold ltM at *
  simp only [decide_eq_true_eq, decide_eq_false_iff_not] at *
  generalize YA x.o.hash = v1 at *
  generalize YA y.o.hash = v2 at *
  generalize YA z.o.hash = v3 at *
  omega
def Zp (l : List Ze) : List Ze := Yx ltM [] l
def Zt (l : List Ze) (i : Nat) : List AV := (l.getD i ZI).c
end Go.Tk
end
section
namespace Go.Tk
open IntKind (i64 u8 u32 u64 wrap)
def byL : List AV := [.func (.func 107) [] [], .func (.func 109) [] [], .func (.func 111) [] [], .func (.func 112) [] [], .func (.func 113) [] []]
theorem Z6J {a b r c : Int} {P X Y : Prop} (hr : r = if VJ a b ≠ 0 then VJ a b else c) (hP : r = c → P) :
  Z0 (a != a) X (Z0 (b != b) Y (Z0 (decide (a < b)) (Z0 (decide (-1 = r)) True False) (Z0 (decide (a > b)) (Z0 (decide (1 = r)) True False) P))) := by
 rw [bne_self_eq_false, bne_self_eq_false]
 show Z0 (decide (a < b)) _ (Z0 (decide (a > b)) _ P)
 rcases Wt a b with ⟨h1, h2⟩ | ⟨h1, h2⟩ | ⟨h1, h2⟩
 ·rw [decide_eq_true h1, hr, h2]; trivial
 ·rw [decide_eq_false (by omega : ¬ a < b), decide_eq_true (show a > b from h1), hr, h2]; trivial
 ·rw [decide_eq_false (by omega : ¬ a < b), decide_eq_false (show ¬ a > b by omega)]
  exact hP (by rw [hr, h2]; rfl)
theorem Zjc (a b : Ze) (r : Int) (ha : a.Ok) (hb : b.Ok) (hr : r = ZaH a b) :
  evF G0 20 151 [.agg a.c, .agg b.c, .pview [.vrows 1 5 (ZO byL 0 1) 5] 0] ⟨0, []⟩ (Yc 0 (.ret (.int .i64 r)) 0 []) := by
 refine @Eq.mpr _ (let q1 := a.o;
 let q2 := q1.amount;
 let q3 := b.o;
 let q4 := q3.amount;
 let q5 := q4 != q4;
 let q6 := q1.kind;
 let q7 := q3.kind;
 let q8 := q7 != q7;
 let q9 := q1.expiry;
 let q10 := q3.expiry;
 let q11 := q10 != q10;
 let q12 := q1.hash;
 let q13 := q3.hash;
 let q14 := XD q12 q13;
 let q15 := a.id;
 let q16 := b.id;
 let q17 := q16 != q16;
 let q18 := Z0 (decide (0 = r)) True False;
 let q19 := Z0 (decide (-1 = r)) True False;
 let q20 := Z0 (decide (1 = r)) True False;
 let q21 := Z0 (decide (u8 = u8 ∧ List.length q12 = 32)) (Z0 (decide (u8 = u8 ∧ List.length q13 = 32)) (Z0 (q14 != 0) (Z0 (decide (q14 = r)) True False) (Z0 (q15 != q15) (Z0 q17 q18 q19) (Z0 q17 q20 (Z0 (decide (q15 < q16)) q19 (Z0 (decide (q15 > q16)) q20 q18))))) False) False;
 let q22 := Z0 (q9 != q9) (Z0 q11 q21 q19) (Z0 q11 q20 (Z0 (decide (q9 < q10)) q19 (Z0 (decide (q9 > q10)) q20 q21)));
 let q23 := Z0 (q6 != q6) (Z0 q8 q22 q19) (Z0 q8 q20 (Z0 (decide (q6 < q7)) q19 (Z0 (decide (q6 > q7)) q20 q22)));
 Z0 (q2 != q2) (Z0 q5 q23 q19) (Z0 q5 q20 (Z0 (decide (q2 < q4)) q19 (Z0 (decide (q2 > q4)) q20 q23)))) (by kernel_rfl) ?_
 conv => zeta
 unfold ZaH at hr
 refine Z6J hr fun hr => Z6J hr fun hr => Z6J hr fun hr => ?_
 rw [decide_eq_true (show u8 = u8 ∧ a.o.hash.length = 32 from ⟨rfl, ha.hash⟩), decide_eq_true (show u8 = u8 ∧ b.o.hash.length = 32 from ⟨rfl, hb.hash⟩)]
 show Z0 (XD a.o.hash b.o.hash != 0) _ _
 by_cases h : XD a.o.hash b.o.hash = 0
 ·rw [h]
  rw [if_neg (by simp [h])] at hr
  refine Z6J (c := 0) ?_ fun hr => by rw [hr]; trivial
  rw [hr]; split <;> simp_all
 ·rw [if_pos h] at hr
  rw [bne_iff_ne.2 h, hr, decide_eq_true rfl]; trivial
def Zjd : ZW := fun args h K => ZH none h true 20 args fun a => match a with
 | [.agg ca, .agg cb, .pview [.vrows 1 5 f 5] 0] => ∃ a b, ca = Ze.c a ∧ cb = Ze.c b ∧ f = ZO byL 0 1 ∧ (a.Ok ∧ b.Ok) ∧ K (.int .i64 (ZaH a b))
 | _ => False
theorem Zf6 (args : List AV) (h : Z7) (K : AV → Prop) (hl : Zjd args h K) : Zk PP 151 args h fun o h' => ∃ v, o = .ret v ∧ h' = h ∧ K v := by
 refine ZB.psumm (d := 20) (Zq _ _ _ _ _ hl fun a ha => ?_)
 split at ha
 ·obtain ⟨a, b, rfl, rfl, rfl, ⟨h1, h2⟩, hK⟩ := ha
  exact ⟨_, .evM Zu (Zjc a b _ h1 h2 rfl), fun _ => rfl, hK⟩
 ·exact ha.elim
end Go.Tk
end
section
namespace Go.Tk
open IntKind (i64 u8 u32 u64 wrap)
theorem and_mk {a b : Bool} (h1 : a = true) (h2 : b = true) : (a && b) = true := by rw [h1, h2]; rfl
theorem ZcM {E : Env} {w : World} {sz n : Nat} {g g' : Nat → List AV} (hg : ∀ i, i < n → g' i = g i) (he : Emb E ⟨1, [(0, .rows sz n g')]⟩ w) : Emb E ⟨1, [(0, .rows sz n g)]⟩ w := by
 have hget : ∀ (f : Nat → List AV) x B, (Z7.mk 1 [(0, .rows sz n f)]).get x = some B → x = 0 ∧ B = .rows sz n f := fun f x B hx => by
  simp only [Z7.get, ZT] at hx
  split at hx
  ·rename_i hb
   cases hx
   exact ⟨(Nat.eq_of_beq_eq_true hb).symm, rfl⟩
  ·cases hx
 have h0 : ∀ f : Nat → List AV, (Z7.mk 1 [(0, .rows sz n f)]).get 0 = some (.rows sz n f) := fun f => rfl
 refine ⟨he.fresh, fun x B hx => ?_, fun x B hx => ?_, fun x y B B' b N N' hx hy h1 h2 => ?_, he.imm, fun a c x B N hi hx hb => ?_⟩
 ·obtain ⟨rfl, rfl⟩ := hget _ _ _ hx; exact he.lt 0 _ (h0 _)
 ·obtain ⟨rfl, rfl⟩ := hget _ _ _ hx
  have := he.own 0 _ (h0 g')
  cases this with
  | rows0 _ _ _ hn hb => exact .rows0 _ _ _ hn hb
  | rows _ _ _ b cells elem fr gv hb hw hf hc hl hv => exact .rows _ _ _ b cells elem fr gv hb hw hf (fun i hi => hg i hi ▸ hc i hi) hl hv
 ·obtain ⟨rfl, rfl⟩ := hget _ _ _ hx
  obtain ⟨rfl, rfl⟩ := hget _ _ _ hy
  rfl
 ·obtain ⟨rfl, rfl⟩ := hget _ _ _ hx
  exact he.sep a c 0 _ N hi (h0 g') hb
theorem Spec.rows {P : Program} {f : FuncId} {args : List AV} {sz n : Nat} {g g' : Nat → List AV} {o : Out} {nx : Nat} {bs : List (Nat × Blk)} (hg : ∀ i, i < n → g' i = g i) (h : Spec P f args ⟨1, [(0, .rows sz n g)]⟩ o nx bs) : Spec P f args ⟨1, [(0, .rows sz n g')]⟩ o nx bs := by
 intro E w rs he hl
 have he' := ZcM hg he
 refine (h E w rs he' hl).mono ?_
 rintro e w' ⟨E', hev, ho⟩
 have own : ∀ b, WS E ⟨1, [(0, .rows sz n g)]⟩ b ↔ WS E ⟨1, [(0, .rows sz n g')]⟩ b := fun b => by
  unfold WS
  constructor
  ·rintro ⟨x, B, N, hx, hb⟩
   simp only [Z7.get, ZT] at hx
   split at hx
   ·rename_i hq; have := Nat.eq_of_beq_eq_true hq; subst this; exact ⟨0, _, N, rfl, hb⟩
   ·cases hx
  ·rintro ⟨x, B, N, hx, hb⟩
   simp only [Z7.get, ZT] at hx
   split at hx
   ·rename_i hq; have := Nat.eq_of_beq_eq_true hq; subst this; exact ⟨0, _, N, rfl, hb⟩
   ·cases hx
 exact ⟨E', ⟨hev.le, hev.emb, hev.size, hev.os, hev.tape, hev.output, fun b hb hn => hev.keep b hb (fun h => hn ((own b).1 h)), fun b hb => (hev.own b hb).imp (own b).1 id, hev.imm⟩, ho⟩
theorem Zf7 {blk sz n len lo d : Nat} {f : Nat → List AV} {h : Z7} {K0 : List Blk → List AV → Prop} (hg : h.get blk = some (.rows sz n f)) (hp : ∀ i, i < n → plainC (f i) = true)
  (hK : K0 [.rows sz n f] [.nslice ⟨0, 0, sz, 0, 0⟩ sz len lo]) : frA [blk] h (d + 3) [.nslice ⟨blk, 0, sz, 0, 0⟩ sz len lo] K0 := by
 unfold frA
 have h1 : (hasB h [blk] && Z1g [blk]) = true := by simp [hasB, hg, Z1g, Xv]
 rw [h1]
 simp only [ZbY, hg, vwB]
 refine ⟨hp, ?_⟩
 simp only [vwL, vwV, Xv, Nat.beq_refl]
 exact hK
end Go.Tk
end
section
namespace Go.Tk
open IntKind (i64 u8 u32 u64 wrap)
noncomputable def E82 : Zd := G0.withP 151 Zjd
theorem ZcN : E82.Ok := Zd.withP_ok Zu Zf6
def Zf8 : AV := .func (.func 151) [] [.pview [.vrows 1 5 (ZO byL 0 1) 5] 0]
def isH (n : Nat) (L : List Ze) : Z7 := ⟨1, [(0, .rows 134 n (Zt L))]⟩
def isT (n lo : Nat) (A B : Int) (l : ZY) : ZY := l ++ [(2, .int .i64 B), (1, .int .i64 A), (3, Zf8), (0, .nslice ⟨0, 0, 134, 0, 0⟩ 134 n lo)]
def Z3E (n lo : Nat) (A B I : Int) (L : List Ze) : St := ⟨53, isT n lo A B [(8, .int .i64 I)], isH n L, []⟩
def Zf9 (n lo : Nat) (A B I J : Int) (L : List Ze) : St := ⟨53, isT n lo A B [(9, .int .i64 J), (8, .int .i64 I)], isH n L, []⟩
theorem Xg (L : List Ze) (i : Nat) : plainC (Zt L i) = true := rfl
theorem ZN {k : Nat} {τ : Ren} {n : Nat} {L : List Ze} {f : Nat → List AV} (h : ∀ i, i < n → f i = Zt L i) : Zc k τ n (Zt L) f :=
 VB h (fun i _ => Xg L i) (fun i _ v hv => by
  simp only [Zt, Ze.c, List.mem_cons, List.not_mem_nil, or_false] at hv
  rcases hv with rfl | rfl | rfl | rfl | rfl | rfl | rfl | rfl | rfl | rfl <;> first | exact .inl rfl | exact .inr ⟨_, _, _, rfl⟩)
theorem Z1M {L : List Ze} (h : ∀ m ∈ L, m.Ok) {i : Nat} (hi : i < L.length) : (L.getD i ZI).Ok := by
 rw [List.getD_eq_getElem?_getD, List.getElem?_eq_getElem hi]
 exact h _ (List.getElem_mem hi)
theorem ZcO {f : Nat → List AV} {J J1 i : Nat} {x y : List AV} (hx : x = f J) (hy : y = f J1) : VP (VP f J y) J1 x i = if i = J1 then f J else if i = J then f J1 else f i := by
 rw [XG, XG]
 by_cases h1 : i = J1
 ·subst h1; rw [Nat.beq_refl, if_pos rfl, hx]
 ·rw [Zv h1, if_neg h1]
  by_cases h2 : i = J
  ·subst h2; rw [Nat.beq_refl, if_pos rfl, hy]
  ·rw [Zv h2, if_neg h2]
theorem Zkw (n lo A B I J : Nat) (L L1 : List Ze) (Z1 Z2 : Prop) (hn : n < 900000000000) (hJ : J < n) (hL : L.length = n) (hok : ∀ m ∈ L, m.Ok) (hsw : A < J → ∀ i, i < n → Zt L1 i = if i = J - 1 then Zt L J else if i = J then Zt L (J - 1) else Zt L i) (h1 : A < J → ltM (L.getD J ZI) (L.getD (J - 1) ZI) = true → Z1) (h2 : J ≤ A ∨ ltM (L.getD J ZI) (L.getD (J - 1) ZI) = false → Z2) :
  ZF E82 20 203 2 1 (Zf9 n lo A B I J L) (rdM 1 2 9 (Zf9 n lo A B I ((J - 1 : Nat) : Int) L1) (Z3E n lo A B I L) (Z3E n lo A B I L) (Z3E n lo A B I L) Z1 Z2 False False) := by
 refine @Eq.mpr _ (let q1 := decide (0 ≤ (↑J : Int) ∧ (↑J : Int) < (↑n : Int));
 let q2 := 0 + Int.toNat (↑J : Int);
 let q3 := wrap i64 ((↑J : Int) - 1);
 let q4 := decide (0 ≤ q3 ∧ q3 < (↑n : Int));
 let q5 := 0 + Int.toNat q3;
 let q6 := List.getD L q2 ZI;
 let q7 := q6.o;
 let q8 := [AV.int i64 q7.kind, AV.int i64 q7.amount, AV.arr u8 32 q7.owner, AV.arr u8 32 q7.other, AV.arr u8 32 q7.point, AV.arr u8 32 q7.hash, AV.int i64 q7.delay, AV.int i64 q7.expiry, AV.int i64 q6.id, AV.int i64 q6.what];
 let q9 := List.getD L q5 ZI;
 let q10 := q9.o;
 let q11 := [AV.int i64 q10.kind, AV.int i64 q10.amount, AV.arr u8 32 q10.owner, AV.arr u8 32 q10.other, AV.arr u8 32 q10.point, AV.arr u8 32 q10.hash, AV.int i64 q10.delay, AV.int i64 q10.expiry, AV.int i64 q9.id, AV.int i64 q9.what];
 let q12 := ZO byL 0 1;
 let q13 := decide ((↑I : Int) = (↑I : Int));
 let q14 := decide ((↑B : Int) = (↑B : Int));
 let q15 := decide ((↑A : Int) = (↑A : Int));
 let q16 := [AV.vrows 1 5 q12 5];
 let q17 := q16 = q16;
 let q18 := decide (n = n);
 let q19 := decide (lo ≤ lo);
 let q20 := Zt L;
 let q21 := Z0 q13 (Z0 q14 (Z0 q15 (q17 ∧ Z0 q18 (Z0 q19 (Z0 q18 (Zc 1 [] n q20 q20 ∧ Z2) False) False) False) False) False) False;
 Z0 (decide ((↑J : Int) > (↑A : Int))) (Z0 q1 (Z0 (decide (q2 < n)) (Z0 q4 (Z0 (decide (q5 < n)) (∃ (a : Ze), ∃ (b : Ze), q8 = Ze.c a ∧ q11 = Ze.c b ∧ q12 = q12 ∧ (Ze.Ok a ∧ Ze.Ok b) ∧ Z0 (decide (ZaH a b < 0)) (Z0 q4 (Z0 (decide (q5 < n)) (Z0 q1 (Z0 (decide (q2 < n)) (Z0 q1 (Z0 (decide (q2 < n)) (Z0 q4 (Z0 (decide (q5 < n)) (Z0 (decide (q3 = (↑(J - 1) : Int))) (Z0 q13 (Z0 q14 (Z0 q15 (q17 ∧ Z0 q18 (Z0 q19 (Z0 q18 (Zc 1 [] n (Zt L1) (VP (VP q20 q2 q11) q5 q8) ∧ Z1) False) False) False) False) False) False) False) False) False) False) False) False) False) False) False) q21) False) False) False) False) q21) (by kernel_rfl) ?_
 conv => zeta
 try simp only [Zg]
 try simp only [Zl]
 try simp only [Zh]
 try simp only [Zm]
 try simp only [Zn]
 try simp only [Zf]
 try simp only [Int.toNat_natCast, Nat.zero_add, true_and, and_true, Nat.le_refl]
 refine ⟨fun hc => ?_, fun hc => ⟨ZN fun _ _ => rfl, h2 (.inl (by omega))⟩⟩
 have key : i64.wrap ((J : Int) - 1) = ((J - 1 : Nat) : Int) := by rw [w64 (by omega)]; omega
 rw [key]
 simp only [Int.toNat_natCast]
 have o1 : (L.getD J ZI).Ok := Z1M hok (by omega)
 have o2 : (L.getD (J - 1) ZI).Ok := Z1M hok (by omega)
 have hlt := Zf5 o1 o2
 refine ⟨by omega, by omega, by omega, by omega, L.getD J ZI, L.getD (J - 1) ZI, rfl, rfl, ⟨o1, o2⟩, fun hm => ?_, fun hm => ⟨ZN fun _ _ => rfl, h2 (.inr (by rw [← hlt]; simpa using hm))⟩⟩
 refine ⟨by omega, by omega, by omega, by omega, by omega, by omega, by omega, by omega, trivial, ZN fun i hi => ?_, h1 (by omega) (by rw [← hlt]; simpa using hm)⟩
 rw [hsw (by omega) i hi]
 exact ZcO rfl rfl
def isL (a p : List Ze) (x : Ze) (r : List Ze) (m : Nat) : List Ze := a ++ (p.take (p.length - m) ++ x :: (p.drop (p.length - m) ++ r))
theorem Zfa {a p r : List Ze} {x : Ze} {m : Nat} : (isL a p x r m).length = a.length + p.length + 1 + r.length := by
 unfold isL
 simp only [List.length_append, List.length_cons, List.length_take, List.length_drop]
 omega
theorem Z9k {a p r : List Ze} {x : Ze} {m : Nat} {z : Ze} : z ∈ isL a p x r m ↔ z ∈ a ∨ z ∈ p ∨ z = x ∨ z ∈ r := by
 unfold isL
 have e : z ∈ p ↔ z ∈ p.take (p.length - m) ∨ z ∈ p.drop (p.length - m) := by
  rw [← List.mem_append, List.take_append_drop]
 rw [e]
 simp only [List.mem_append, List.mem_cons]
 constructor
 ·rintro (h | h | h | h | h) <;> simp [h]
 ·rintro (h | (h | h) | h | h) <;> simp [h]
theorem ZcP {a p r : List Ze} {x : Ze} {m : Nat} (hm : m ≤ p.length) : (isL a p x r m).getD (a.length + p.length - m) ZI = x := by
 unfold isL
 rw [List.getD_eq_getElem?_getD, List.getElem?_append_right (by omega), List.getElem?_append_right (by rw [List.length_take]; omega)]
 have : a.length + p.length - m - a.length - (p.take (p.length - m)).length = 0 := by rw [List.length_take]; omega
 rw [this]; rfl
theorem ZcQ {a p r : List Ze} {x : Ze} {m : Nat} (hm : m < p.length) : (isL a p x r m).getD (a.length + p.length - m - 1) ZI = p.getD (p.length - m - 1) ZI := by
 unfold isL
 rw [List.getD_eq_getElem?_getD, List.getElem?_append_right (by omega), List.getElem?_append_left (by rw [List.length_take]; omega), List.getElem?_take, if_pos (by omega), ← List.getD_eq_getElem?_getD]
 congr 1
 omega
theorem ZcR {a p r : List Ze} {x : Ze} {m : Nat} (hm : m < p.length) (i : Nat) : Zt (isL a p x r (m + 1)) i = if i = a.length + p.length - m - 1 then Zt (isL a p x r m) (a.length + p.length - m) else if i = a.length + p.length - m then Zt (isL a p x r m) (a.length + p.length - m - 1) else Zt (isL a p x r m) i := by
 unfold Zt
 rw [ZcP (by omega), ZcQ hm]
 have hx := ZcP (a := a) (p := p) (r := r) (x := x) (m := m + 1) (by omega)
 by_cases h1 : i = a.length + p.length - m - 1
 ·rw [if_pos h1, h1, show a.length + p.length - m - 1 = a.length + p.length - (m + 1) by omega, hx]
 ·rw [if_neg h1]
  have e : p.length - m = (p.length - (m + 1)) + 1 := by omega
  have hd : p.drop (p.length - (m + 1)) = p.getD (p.length - m - 1) ZI :: p.drop (p.length - m) := by
   rw [List.drop_eq_getElem_cons (by omega), show p.length - (m + 1) + 1 = p.length - m by omega]
   congr 1
   rw [List.getD_eq_getElem?_getD, List.getElem?_eq_getElem (by omega)]
   simp only [Option.getD_some]
   congr 1
  have ht : p.take (p.length - m) = p.take (p.length - (m + 1)) ++ [p.getD (p.length - m - 1) ZI] := by
   rw [e, List.take_succ_eq_append_getElem (by omega)]
   congr 2
   rw [List.getD_eq_getElem?_getD, List.getElem?_eq_getElem (by omega)]
   simp only [Option.getD_some]
   congr 1
  have l1 : (p.take (p.length - (m + 1))).length = p.length - (m + 1) := by rw [List.length_take]; omega
  generalize p.getD (p.length - m - 1) ZI = y at *
  have hm1 : isL a p x r (m + 1) = (a ++ p.take (p.length - (m + 1))) ++ (x :: y :: (p.drop (p.length - m) ++ r)) := by
   unfold isL; rw [hd]; simp
  have hm0 : isL a p x r m = (a ++ p.take (p.length - (m + 1))) ++ (y :: x :: (p.drop (p.length - m) ++ r)) := by
   unfold isL; rw [ht]; simp
  rw [hm1, hm0]
  have l2 : (a ++ p.take (p.length - (m + 1))).length = a.length + p.length - m - 1 := by rw [List.length_append, l1]; omega
  generalize a ++ p.take (p.length - (m + 1)) = U at *
  generalize p.drop (p.length - m) ++ r = V at *
  by_cases h2 : i = a.length + p.length - m
  ·rw [if_pos h2, List.getD_eq_getElem?_getD, List.getElem?_append_right (by omega), show i - U.length = 1 by omega]
   rfl
  ·rw [if_neg h2]
   rcases Nat.lt_or_ge i U.length with h3 | h3
   ·rw [List.getD_eq_getElem?_getD, List.getD_eq_getElem?_getD, List.getElem?_append_left h3, List.getElem?_append_left h3]
   ·rw [List.getD_eq_getElem?_getD, List.getD_eq_getElem?_getD, List.getElem?_append_right h3, List.getElem?_append_right h3]
    obtain ⟨q, hq⟩ : ∃ q, i - U.length = q + 2 := ⟨i - U.length - 2, by omega⟩
    rw [hq]; rfl
def isGo (p : List Ze) (x : Ze) (m : Nat) : Prop := m < p.length ∧ ltM x (p.getD (p.length - m - 1) ZI) = true
def Zje (p : List Ze) (x : Ze) (m : Nat) : Prop := m = p.length ∨ (m < p.length ∧ ltM x (p.getD (p.length - m - 1) ZI) = false)
theorem Zfb {a p r : List Ze} {x : Ze} {m : Nat} (ho : Wm ltM p) (hm : m ≤ p.length) (hgo : ∀ j, j < m → isGo p x j) (hex : Zje p x m) : isL a p x r m = a ++ (VI ltM x p ++ r) := by
 have h := Z5o Z5p (x := x) (l := p) (j := p.length - m) ho (by omega) (fun y hy => ?_) (fun y hy hj => ?_)
 ·unfold isL
  rw [← h]; simp
 ·obtain ⟨q, hq⟩ := List.mem_iff_getElem?.1 hy
  rw [List.getElem?_drop] at hq
  obtain ⟨hlt, he⟩ := List.getElem?_eq_some_iff.1 hq
  have := (hgo (p.length - 1 - (p.length - m + q)) (by omega)).2
  rw [List.getD_eq_getElem?_getD, show p.length - (p.length - 1 - (p.length - m + q)) - 1 = p.length - m + q by omega, hq] at this
  exact this
 ·rcases hex with hex | ⟨_, hex⟩
  ·omega
  ·rw [List.getD_eq_getElem?_getD, hy] at hex
   exact hex
structure IsQ where
 a : List Ze
 p : List Ze
 x : Ze
 r : List Ze
def IsQ.n (q : IsQ) : Nat := q.a.length + q.p.length + 1 + q.r.length
def IsQ.I (q : IsQ) : Nat := q.a.length + q.p.length
def IsQ.L (q : IsQ) (m : Nat) : List Ze := isL q.a q.p q.x q.r m
structure IsQ.Ok (q : IsQ) (n : Nat) (A : Nat) : Prop where
 hn : q.n = n
 hA : q.a.length = A
 le : n < 900000000000
 ok : ∀ m ∈ q.L 0, m.Ok
def IsQ.go (q : IsQ) : Nat → Prop := isGo q.p q.x
def IsQ.ex (q : IsQ) : Nat → Prop := Zje q.p q.x
def IsQ.len (q : IsQ) : Nat := q.p.length
noncomputable def Zhm (n lo A B : Nat) : Zd := E82.withL 203 2 (Zcr fun q : IsQ => goM 1 (Zf9 n lo A B q.I q.I (q.L 0)) (q.Ok n A) (Ym 2 q.len 9 q.go q.ex (fun _ => False) (fun _ => False) (fun m => Z3E n lo A B q.I (q.L m)) (fun m => Z3E n lo A B q.I (q.L m)) (fun m => Z3E n lo A B q.I (q.L m))))
theorem Zfc (n lo A B : Nat) : (Zhm n lo A B).Ok :=
 Zd.withL_ex ZcN fun q => Zd.withGoM (N := 20) (S := fun m => Zf9 n lo A B q.I ((q.I - m : Nat) : Int) (q.L m)) ZcN (by kernel_rfl) fun hC => ⟨by simp, fun m hm hgo => by
  obtain ⟨h1, h2, h3, h4⟩ := hC
  have l1 : (q.L m).length = n := by rw [← h1]; exact Zfa
  have hI : q.I = q.a.length + q.p.length := rfl
  have hm' : m ≤ q.p.length := hm
  have hnn : q.n = q.a.length + q.p.length + 1 + q.r.length := rfl
  have hx : (q.L m).getD (q.I - m) ZI = q.x := ZcP hm'
  have hok : ∀ z ∈ q.L m, z.Ok := fun z hz => h4 z (Z9k.2 (Z9k.1 hz))
  have := Zkw n lo A B q.I (q.I - m) (q.L m) (q.L (m + 1)) (q.go m ∧ m < q.len) (q.ex m) h3 (by omega) l1 hok (fun hlt i hi => ?_) (fun hlt hc => ?_) (fun hc => ?_)
  ·rw [show q.I - (m + 1) = q.I - m - 1 by omega]
   exact this
  ·have hmp : m < q.p.length := by omega
   exact ZcR hmp i
  ·have hmp : m < q.p.length := by omega
   rw [hx, show (q.L m).getD (q.I - m - 1) ZI = _ from ZcQ hmp] at hc
   exact ⟨⟨hmp, hc⟩, hmp⟩
  ·rcases Nat.lt_or_ge m q.p.length with hmp | hmp
   ·rcases hc with hc | hc
    ·omega
    ·rw [hx, show (q.L m).getD (q.I - m - 1) ZI = _ from ZcQ hmp] at hc
     exact .inr ⟨hmp, hc⟩
   ·exact .inl (show m = q.p.length by omega)⟩
theorem Zkx (n lo A B I : Nat) (L L1 : List Ze) (q : IsQ) (Z1 Z2 : Prop) (hn : n < 900000000000) (hI : I < 900000000001) (hq : I < B → q.I = I ∧ q.L 0 = L ∧ q.Ok n A) (hnext : I < B → ∀ m, m ≤ q.len → (∀ j, j < m → q.go j) → q.ex m → L1 = q.L m ∧ Z1) (h2 : ¬ I < B → Z2) :
  ZF (Zhm n lo A B) 20 203 0 1 (Z3E n lo A B I L) (rdM 1 0 9 (Z3E n lo A B ((I + 1 : Nat) : Int) L1) ⟨53, [], isH n L, []⟩ ⟨53, [], isH n L, []⟩ ⟨53, [], isH n L, []⟩ Z1 Z2 False False) := by
 refine @Eq.mpr _ (let q1 := decide ((↑B : Int) = (↑B : Int));
 let q2 := decide ((↑A : Int) = (↑A : Int));
 let q3 := [AV.vrows 1 5 (ZO byL 0 1) 5];
 let q4 := q3 = q3;
 let q5 := decide (n = n);
 let q6 := decide (lo ≤ lo);
 let q7 := Zt L;
 Z0 (decide ((↑I : Int) < (↑B : Int)))
 (∃ (i : IsQ),
 let q15 := (↑(IsQ.I i) : Int);
 let q16 := decide ((↑I : Int) = q15);
 Z0 q16
 (Z0 q16
 (Z0 q1
 (Z0 q2
 (q4 ∧
 Z0 q5
 (Z0 q6
 (Z0 q5
 (Zc 1 [] n (Zt (IsQ.L i 0)) q7 ∧
 IsQ.Ok i n A ∧
 ∀ (i_1 : Nat),
 let q19 := Zt (IsQ.L i i_1);
 i_1 ≤ IsQ.len i → (∀ (j : Nat), j < i_1 → IsQ.go i j) → (IsQ.ex i i_1 → Z0 (decide (wrap i64 (q15 + 1) = (↑(I + 1) : Int))) (Z0 q1 (Z0 q2 (q4 ∧ Z0 q5 (Z0 q6 (Z0 q5 (Zc 1 [] n (Zt L1) q19 ∧ Z1) False) False) False) False) False) False) ∧ (False → Z0 q5 (Zc 1 [] n q7 q19 ∧ False) False) ∧ (False → Z0 q5 (Zc 1 [] n q7 q19 ∧ False) False))
 False)
 False)
 False)
 False)
 False)
 False)
 False)
 (Z0 q5 (Zc 1 [] n q7 q7 ∧ Z2) False)) (by kernel_rfl) ?_
 conv => zeta
 try simp only [Zg]
 try simp only [Zl]
 try simp only [Zh]
 try simp only [Zm]
 try simp only [Zn]
 try simp only [Zf]
 try simp only [Int.toNat_natCast, Nat.zero_add, true_and, and_true, Nat.le_refl]
 refine ⟨fun hc => ?_, fun hc => ⟨ZN fun _ _ => rfl, h2 (by omega)⟩⟩
 obtain ⟨e1, e2, e3⟩ := hq (by omega)
 refine ⟨q, by omega, by omega, ZN (fun _ _ => by rw [e2]), e3, fun m hm hgo => ⟨fun hex => ?_, fun h => h.elim, fun h => h.elim⟩⟩
 obtain ⟨e4, hZ⟩ := hnext (by omega) m hm hgo hex
 exact ⟨by rw [w64 (by omega)]; omega, ZN (fun _ _ => by rw [e4]), hZ⟩
structure IsP where
 a : List Ze
 M : List Ze
 c : List Ze
def IsP.L (q : IsP) (t : Nat) : List Ze := q.a ++ (Yx ltM [] (q.M.take (t + 1)) ++ (q.M.drop (t + 1) ++ q.c))
def IsP.N (q : IsP) : Nat := q.M.length - 1
def IsP.all (q : IsP) : List Ze := q.a ++ (q.M ++ q.c)
def IsP.done (q : IsP) : List Ze := q.a ++ (Zp q.M ++ q.c)
structure IsP.Ok (q : IsP) (n A B : Nat) : Prop where
 hn : q.a.length + q.M.length + q.c.length = n
 hA : q.a.length = A
 hB : q.a.length + q.M.length = B
 le : n < 900000000000
 ok : ∀ m ∈ q.all, m.Ok
theorem IsP.L0 (q : IsP) : q.L 0 = q.all := by
 unfold IsP.L IsP.all
 cases h : q.M with
 | nil => rfl
 | cons x r => rfl
theorem IsP.LN (q : IsP) : q.L q.N = q.done := by
 unfold IsP.L IsP.done IsP.N
 rw [List.take_of_length_le (by omega), List.drop_of_length_le (by omega)]; rfl
theorem Z4s {l acc : List Ze} {z : Ze} : z ∈ Yx ltM acc l ↔ z ∈ acc ∨ z ∈ l := by
 rw [(YZ (lt := ltM)).mem_iff, List.mem_append]
noncomputable def Zjf (q : IsP) (n lo A B : Nat) : Zd := (Zhm n lo A B).withL 203 0 (goM 1 (Z3E n lo A B ((A + 1 : Nat) : Int) (q.L 0)) (q.Ok n A B) (Ym 0 q.N 9 (fun t => t < q.N) (fun t => t = q.N) (fun _ => False) (fun _ => False) (fun t => ⟨53, [], isH n (q.L t), []⟩) (fun t => ⟨53, [], isH n (q.L t), []⟩) (fun t => ⟨53, [], isH n (q.L t), []⟩)))
theorem Zfd (q : IsP) (n lo A B : Nat) : (Zjf q n lo A B).Ok :=
 Zd.withGoM (N := 20) (S := fun t => Z3E n lo A B ((A + 1 + t : Nat) : Int) (q.L t)) (Zfc n lo A B) (by kernel_rfl) fun hC => ⟨rfl, fun t ht hgo => by
  obtain ⟨h1, h2, h3, h4, h5⟩ := hC
  have hN : q.N = q.M.length - 1 := rfl
  have hMl : q.M.length ≤ n := by omega
  have := Zkx n lo A B (A + 1 + t) (q.L t) (q.L (t + 1)) ⟨q.a, Yx ltM [] (q.M.take (t + 1)), q.M.getD (t + 1) ZI, q.M.drop (t + 2) ++ q.c⟩ (t < q.N ∧ t < q.N) (t = q.N) h4 (by omega) (fun hlt => ?_) (fun hlt m hm hg he => ?_) (fun hc => by omega)
  ·rw [show A + 1 + (t + 1) = A + 1 + t + 1 by omega]; exact this
  ·have hl : (Yx ltM [] (q.M.take (t + 1))).length = t + 1 := by rw [Z14, List.length_take]; simp; omega
   have e0 : q.L t = isL q.a (Yx ltM [] (q.M.take (t + 1))) (q.M.getD (t + 1) ZI) (q.M.drop (t + 2) ++ q.c) 0 := by
    unfold isL IsP.L
    rw [Nat.sub_zero, List.take_length, List.drop_length, List.drop_eq_getElem_cons (show t + 1 < q.M.length by omega), List.getD_eq_getElem?_getD, List.getElem?_eq_getElem (show t + 1 < q.M.length by omega)]
    rfl
   refine ⟨?_, e0.symm, ?_, h2, h4, fun z hz => ?_⟩
   ·show q.a.length + (Yx ltM [] (q.M.take (t + 1))).length = _
    rw [hl, h2]; omega
   ·show q.a.length + (Yx ltM [] (q.M.take (t + 1))).length + 1 + (q.M.drop (t + 2) ++ q.c).length = n
    rw [hl, List.length_append, List.length_drop]; omega
   ·have hz : z ∈ isL q.a (Yx ltM [] (q.M.take (t + 1))) (q.M.getD (t + 1) ZI) (q.M.drop (t + 2) ++ q.c) 0 := hz
    refine h5 z ?_
    rw [← e0] at hz
    unfold IsP.L at hz
    unfold IsP.all
    rw [List.mem_append, List.mem_append, Z4s, List.mem_append] at hz
    rw [List.mem_append, List.mem_append]
    rcases hz with hz | (hz | hz) | hz | hz
    ·exact .inl hz
    ·simp at hz
    ·exact .inr (.inl (List.mem_of_mem_take hz))
    ·exact .inr (.inl (List.mem_of_mem_drop hz))
    ·exact .inr (.inr hz)
  ·refine ⟨?_, by omega⟩
   have := Zfb (a := q.a) (r := q.M.drop (t + 2) ++ q.c) (x := q.M.getD (t + 1) ZI) (m := m) (Ws Z5p (l := q.M.take (t + 1)) (acc := []) .nil) hm hg he
   show _ = isL q.a _ _ _ m
   rw [this]
   unfold IsP.L
   have e2 : q.M.take (t + 1 + 1) = q.M.take (t + 1) ++ [q.M.getD (t + 1) ZI] := by
    rw [List.take_succ_eq_append_getElem (by omega), List.getD_eq_getElem?_getD, List.getElem?_eq_getElem (show t + 1 < q.M.length by omega)]
    rfl
   rw [e2, QR]⟩
theorem Zky (q : IsP) (n lo A B : Nat) (L0 L1 : List Ze) (hq : q.Ok n A B) (hL : L0 = q.all) (hL1 : L1 = q.done) :
  evF (Zjf q n lo A B) 20 203 [.nslice ⟨0, 0, 134, 0, 0⟩ 134 n lo, .int .i64 A, .int .i64 B, Zf8] (isH n L0) (Yc 1 (.ret (.tuple [])) 1 [(0, .rows 134 n (Zt L1))]) := by
 refine @Eq.mpr _ (let q1 := [AV.vrows 1 5 (ZO byL 0 1) 5];
 let q2 := decide (n = n);
 let q3 := IsP.N q;
 Z0 (decide (wrap i64 ((↑A : Int) + 1) = (↑(A + 1) : Int)))
 (Z0 (decide ((↑B : Int) = (↑B : Int)))
 (Z0 (decide ((↑A : Int) = (↑A : Int)))
 (q1 = q1 ∧
 Z0 q2
 (Z0 (decide (lo ≤ lo))
 (Z0 q2
 (Zc 1 [] n (Zt (IsP.L q 0)) (Zt L0) ∧
 IsP.Ok q n A B ∧
 ∀ (i : Nat),
 let q7 := Z0 q2 (Zc 1 [] n (Zt L1) (Zt (IsP.L q i)) ∧ True) False;
 i ≤ q3 → (∀ (j : Nat), j < i → (fun (t : Nat) => t < q3) j) → (i = q3 → q7) ∧ (False → q7) ∧ (False → False))
 False)
 False)
 False)
 False)
 False)
 False) (by kernel_rfl) ?_
 conv => zeta
 try simp only [Zg]
 try simp only [Zl]
 try simp only [Zh]
 try simp only [Zm]
 try simp only [Zn]
 try simp only [Zf]
 try simp only [Int.toNat_natCast, Nat.zero_add, true_and, and_true, Nat.le_refl]
 refine ⟨by rw [w64 (by have := hq.hn; have := hq.hA; have := hq.le; omega)]; omega, ZN (fun _ _ => by rw [hL, q.L0]), hq, fun i hi hg => ⟨fun he => ?_, fun h => h.elim, fun h => h.elim⟩⟩
 subst he
 exact ZN fun _ _ => by rw [hL1, q.LN]
def isF : Y9 := fun args h K => match args with
 | .nslice p esz len lo :: r => frA [p.blk] h 20 (.nslice p esz len lo :: r) fun Bs a => match Bs, a with
  | [.rows 134 m f], [.nslice ⟨0, 0, 134, 0, 0⟩ 134 n lo, .int .i64 A, .int .i64 B, .func (.func 151) [] [.pview [.vrows 1 5 g 5] 0]] => ∃ (q : IsP) (a b : Nat), (m = n ∧ A = (a : Int) ∧ B = (b : Int)) ∧ q.Ok n a b ∧ g = ZO byL 0 1 ∧ f = Zt q.all ∧ K (.ret (.tuple [])) ⟨h.next, (p.blk, .rows 134 n (Zt q.done)) :: XO h.bs p.blk⟩
  | _, _ => False
 | _ => False
theorem Zhn (args : List AV) (h : Z7) (K : KO) (hl : isF args h K) : Zk PP 203 args h K := by
 unfold isF at hl
 split at hl
 ·rename_i p esz len lo r
  refine Spec.fsumm (σ := [p.blk]) (d := 20) hl fun Bs a₀ hlen h0 => ?_
  split at h0
  ·obtain ⟨q, a, b, ⟨rfl, rfl, rfl⟩, hq, rfl, rfl, hK⟩ := h0
   exact ⟨_, _, _, _, _, .evM (Zfd _ _ _ _ _) (Zky q _ _ a b _ _ hq rfl rfl), Nat.le_refl 1, .ret _ _ rfl, .cons 0 _ _ _ _ _ rfl (.rows _ _ _ fun i _ => Xg _ i) .nil, hK⟩
  ·exact h0.elim
 ·exact hl.elim
def noF : Y9 := fun _ _ _ => False
theorem Z5q {f : FuncId} (args : List AV) (h : Z7) (K : KO) (hl : noF args h K) : Zk PP f args h K := hl.elim
noncomputable def Z8e : Zd := (G0.withF 203 isF).withF 204 noF
theorem Z9l : Z8e.Ok := Zd.withF_ok (Zd.withF_ok Zu Zhn) Z5q
def ssT (n lo : Nat) (l : ZY) : ZY := l ++ [(2, Zf8), (1, .int .i64 n), (0, .nslice ⟨0, 0, 134, 0, 0⟩ 134 n lo)]
def ZcS (n lo : Nat) (L : List Ze) : St := ⟨63, ssT n lo [(8, .int .i64 20), (7, .int .i64 0), (6, .int .i64 20)], isH n L, []⟩
def Z5r (n lo : Nat) (L : List Ze) : St := ⟨63, ssT n lo [(7, .int .i64 0), (6, .int .i64 20)], isH n L, []⟩
def ZcT (n lo : Nat) (L : List Ze) : St := ⟨63, ssT n lo [(6, .int .i64 20)], isH n L, []⟩
def Z5s (n lo : Nat) (L : List Ze) : St := ⟨63, [], isH n L, []⟩
theorem Zkz (n lo : Nat) (L : List Ze) (Z : Prop) (hn : n < 20) (hZ : Z) :
  ZF Z8e 20 185 0 1 (ZcS n lo L) (rdM 1 0 9 (ZcS n lo L) (Z5r n lo L) (Z5r n lo L) (Z5r n lo L) False Z False False) := by
 refine @Eq.mpr _ (let q1 := ZO byL 0 1;
 let q2 := Zt L;
 let q3 := [AV.vrows 1 5 q1 5];
 let q4 := decide (n = n);
 Z0 (decide (20 ≤ (↑n : Int))) ((∀ (i : Nat), i < n → true = true) ∧ ∃ (q : IsP), ∃ (a : Nat), ∃ (b : Nat), (n = n ∧ 0 = (↑a : Int) ∧ 20 = (↑b : Int)) ∧ IsP.Ok q n a b ∧ q1 = q1 ∧ q2 = Zt (IsP.all q) ∧ False) (q3 = q3 ∧ Z0 (decide ((↑n : Int) = (↑n : Int))) (Z0 q4 (Z0 (decide (lo ≤ lo)) (Z0 q4 (Zc 1 [] n q2 q2 ∧ Z) False) False) False) False)) (by kernel_rfl) ?_
 conv => zeta
 try simp only [Zg]
 try simp only [Zl]
 try simp only [Zh]
 try simp only [Zm]
 try simp only [Zn]
 try simp only [Zf]
 try simp only [Int.toNat_natCast, Nat.zero_add, true_and, and_true, Nat.le_refl]
 exact ⟨fun h => by omega, fun _ => ⟨ZN fun _ _ => rfl, hZ⟩⟩
theorem ZkA (n lo : Nat) (L : List Ze) (Z : Prop) (hn : n < 20) (hZ : Z) :
  ZF Z8e 20 185 2 1 (ZcT n lo L) (rdM 1 2 9 (ZcT n lo L) (Z5s n lo L) (Z5s n lo L) (Z5s n lo L) False Z False False) := by
 refine @Eq.mpr _ (Z0 (decide (20 < (↑n : Int))) (Z0 (decide (40 ≤ (↑n : Int))) False (Z0 (decide (20 < (↑n : Int))) False False)) (Z0 (decide (n = n)) (Zc 1 [] n (Zt L) (Zt L) ∧ Z) False)) (by kernel_rfl) ?_
 try simp only [Zg]
 try simp only [Zl]
 try simp only [Zh]
 try simp only [Zm]
 try simp only [Zn]
 try simp only [Zf]
 try simp only [Int.toNat_natCast, Nat.zero_add, true_and, and_true, Nat.le_refl]
 exact ⟨fun h => absurd h (by omega), fun _ => ⟨ZN fun _ _ => rfl, hZ⟩⟩
noncomputable def Zjg (n lo : Nat) (L L1 : List Ze) : Zd := (Z8e.withL 185 0 (goM 1 (ZcS n lo L) (n < 20) (Ym 0 0 9 (fun _ => False) (fun _ => True) (fun _ => False) (fun _ => False) (fun _ => Z5r n lo L) (fun _ => Z5r n lo L) (fun _ => Z5r n lo L)))).withL 185 2 (goM 1 (ZcT n lo L1) (n < 20) (Ym 2 0 9 (fun _ => False) (fun _ => True) (fun _ => False) (fun _ => False) (fun _ => Z5s n lo L1) (fun _ => Z5s n lo L1) (fun _ => Z5s n lo L1)))
theorem Zfe (n lo : Nat) (L L1 : List Ze) : (Zjg n lo L L1).Ok := by
 have h0 : (Z8e.withL 185 0 _).Ok := Zd.withGoM (N := 20) (S := fun _ => ZcS n lo L) (S0 := ZcS n lo L) (C := n < 20) (n := 0) (l := 9) (go := fun _ => False) (ex := fun _ => True) (re := fun _ => False) (jm := fun _ => False) (En := fun _ => Z5r n lo L) (Rn := fun _ => Z5r n lo L) (Jn := fun _ => Z5r n lo L) Z9l (by kernel_rfl) fun hC => ⟨rfl, fun t _ _ => (by
  have := Zkz n lo L True hC trivial
  simpa only [false_and] using this)⟩
 have h2 : (Z8e.withL 185 2 _).Ok := Zd.withGoM (N := 20) (S := fun _ => ZcT n lo L1) (S0 := ZcT n lo L1) (C := n < 20) (n := 0) (l := 9) (go := fun _ => False) (ex := fun _ => True) (re := fun _ => False) (jm := fun _ => False) (En := fun _ => Z5s n lo L1) (Rn := fun _ => Z5s n lo L1) (Jn := fun _ => Z5s n lo L1) Z9l (by kernel_rfl) fun hC => ⟨rfl, fun t _ _ => (by
  have := ZkA n lo L1 True hC trivial
  simpa only [false_and] using this)⟩
 exact Zd.withL_join (H := Z8e) h0 rfl h2
theorem ZkB (n lo : Nat) (L L1 : List Ze) (hn : n < 20) (hl : L.length = n) (hok : ∀ m ∈ L, m.Ok) (hL : L1 = Zp L) :
  evF (Zjg n lo L L1) 20 150 [.nslice ⟨0, 0, 134, 0, 0⟩ 134 n lo, Zf8] (isH n L) (Yc 1 (.ret (.tuple [])) 1 [(0, .rows 134 n (Zt L1))]) := by
 refine @Eq.mpr _ (let q1 := ZO byL 0 1;
 let q2 := [AV.vrows 1 5 q1 5];
 let q3 := q2 = q2;
 let q4 := decide ((↑n : Int) = (↑n : Int));
 let q5 := decide (n = n);
 let q6 := decide (lo ≤ lo);
 let q7 := Zt L;
 let q8 := Zt L1;
 let q9 := Z0 q5 (Zc 1 [] n q8 q8 ∧ True) False;
 q3 ∧ Z0 q4 (Z0 q5 (Z0 q6 (Z0 q5 (Zc 1 [] n q7 q7 ∧ n < 20 ∧ ∀ (i : Nat), i ≤ 0 → (∀ (j : Nat), j < i → (fun (x : Nat) => False) j) → (True → (∀ (i : Nat), i < n → true = true) ∧ ∃ (q : IsP), ∃ (a : Nat), ∃ (b : Nat), (n = n ∧ 0 = (↑a : Int) ∧ (↑n : Int) = (↑b : Int)) ∧ IsP.Ok q n a b ∧ q1 = q1 ∧ q7 = Zt (IsP.all q) ∧ q3 ∧ Z0 q4 (Z0 q5 (Z0 q6 (Z0 q5 (Zc 1 [] n q8 (Zt (IsP.done q)) ∧ n < 20 ∧ ∀ (i : Nat), i ≤ 0 → (∀ (j : Nat), j < i → (fun (x : Nat) => False) j) → (True → q9) ∧ (False → q9) ∧ (False → False)) False) False) False) False) ∧ (False → Z0 q5 (Zc 1 [] n q8 q7 ∧ True) False) ∧ (False → False)) False) False) False) False) (by kernel_rfl) ?_
 conv => zeta
 try simp only [Zg]
 try simp only [Zl]
 try simp only [Zh]
 try simp only [Zm]
 try simp only [Zn]
 try simp only [Zf]
 try simp only [Int.toNat_natCast, Nat.zero_add, true_and, and_true, Nat.le_refl]
 refine ⟨ZN fun _ _ => rfl, hn, fun i _ _ => ⟨fun _ => ⟨fun _ _ => trivial, ⟨[], L, []⟩, 0, n, ⟨rfl, rfl⟩, ⟨by simp [hl], rfl, by simp [hl], by omega, fun m hm => hok m (by simpa [IsP.all] using hm)⟩, by simp [IsP.all], ZN fun _ _ => by simp [IsP.done, hL], hn, fun j _ _ => ⟨fun _ => ZN fun _ _ => rfl, fun h => h.elim, fun h => h.elim⟩⟩, fun h => h.elim, fun h => h.elim⟩⟩
def stF : Y9 := fun args h K => match args with
 | .nslice p esz len lo :: r => frA [p.blk] h 20 (.nslice p esz len lo :: r) fun Bs a => match Bs, a with
  | [.rows 134 m f], [.nslice ⟨0, 0, 134, 0, 0⟩ 134 n lo, .func (.func 151) [] [.pview [.vrows 1 5 g 5] 0]] => ∃ (L : List Ze), (m = n ∧ n < 20 ∧ L.length = n) ∧ (∀ m ∈ L, m.Ok) ∧ g = ZO byL 0 1 ∧ f = Zt L ∧ K (.ret (.tuple [])) ⟨h.next, (p.blk, .rows 134 n (Zt (Zp L))) :: XO h.bs p.blk⟩
  | _, _ => False
 | _ => False
theorem Zho (args : List AV) (h : Z7) (K : KO) (hl : stF args h K) : Zk PP 150 args h K := by
 unfold stF at hl
 split at hl
 ·rename_i p esz len lo r
  refine Spec.fsumm (σ := [p.blk]) (d := 20) hl fun Bs a₀ hlen h0 => ?_
  split at h0
  ·obtain ⟨L, ⟨rfl, hn, hll⟩, hok, rfl, rfl, hK⟩ := h0
   exact ⟨_, _, _, _, _, .evM (Zfe _ _ _ _) (ZkB _ _ L _ hn hll hok rfl), Nat.le_refl 1, .ret _ _ rfl, .cons 0 _ _ _ _ _ rfl (.rows _ _ _ fun i _ => Xg _ i) .nil, hK⟩
  ·exact h0.elim
 ·exact hl.elim
noncomputable def Zjh : Zd := G0.withF 150 stF
theorem Zff : Zjh.Ok := Zd.withF_ok Zu Zho
theorem ZkC (n lo : Nat) (L L1 : List Ze) (hn : n < 20) (hl : L.length = n) (hok : ∀ m ∈ L, m.Ok) (hL : L1 = Zp L) :
  evF Zjh 20 58 [.nslice ⟨0, 0, 134, 0, 0⟩ 134 n lo] (isH n L) (Yc 1 (.ret (.nslice ⟨0, 0, 134, 0, 0⟩ 134 n lo)) 1 [(0, .rows 134 n (Zt L1))]) := by
 refine @Eq.mpr _ (let q1 := decide (n = n);
 (∀ (i : Nat), i < n → true = true) ∧ ∃ (L_1 : List Ze), (n = n ∧ n < (20 : Nat) ∧ List.length L_1 = n) ∧ (∀ (m : Ze), List.Mem m L_1 → Ze.Ok m) ∧ ZO [AV.func (Fn.func (107 : Nat)) [] [], AV.func (Fn.func (109 : Nat)) [] [], AV.func (Fn.func (111 : Nat)) [] [], AV.func (Fn.func (112 : Nat)) [] [], AV.func (Fn.func (113 : Nat)) [] []] (0 : Nat) (1 : Nat) = ZO byL (0 : Nat) (1 : Nat) ∧ Zt L = Zt L_1 ∧ Z0 q1 (Z0 (decide (lo ≤ lo)) (Z0 q1 (Zc (1 : Nat) [] n (Zt L1) (Zt (Zp L_1)) ∧ True) False) False) False) (by kernel_rfl) ?_
 conv => zeta
 try simp only [Zg]
 try simp only [Zl]
 try simp only [Zh]
 try simp only [Zm]
 try simp only [Zn]
 try simp only [Zf]
 try simp only [Int.toNat_natCast, Nat.zero_add, true_and, and_true, Nat.le_refl]
 exact ⟨fun _ _ => trivial, L, ⟨hn, hl⟩, hok, rfl, rfl, ZN fun _ _ => by rw [hL]⟩
theorem ZkD (X : Nat) (hn : X = X) :
  evF G0 20 58 [.nilslice] ⟨0, []⟩ (Yc 0 (.ret .nilslice) 0 []) := by
 refine @Eq.mpr _ (True) (by kernel_rfl) ?_
 trivial
def orF : Y9 := fun args h K => match args with
 | [.nilslice] => K (.ret .nilslice) h
 | [.nslice p esz len lo] => frA [p.blk] h 20 [.nslice p esz len lo] fun Bs a => match Bs, a with
  | [.rows 134 m f], [.nslice ⟨0, 0, 134, 0, 0⟩ 134 n lo] => ∃ (L : List Ze), (m = n ∧ n < 20 ∧ L.length = n) ∧ (∀ m ∈ L, m.Ok) ∧ (∀ i, i < n → f i = Zt L i) ∧ K (.ret (.nslice ⟨p.blk, 0, 134, 0, 0⟩ 134 n lo)) ⟨h.next, (p.blk, .rows 134 n (Zt (Zp L))) :: XO h.bs p.blk⟩
  | _, _ => False
 | _ => False
theorem ZcU (args : List AV) (h : Z7) (K : KO) (hl : orF args h K) : Zk PP 58 args h K := by
 unfold orF at hl
 split at hl
 ·exact (ZB.evM Zu (ZkD 0 rfl)).calls (fun E w rs he hr => by
   cases hr with
   | cons v r vs rs h1 h2 => cases h2; exact .cons _ _ _ _ (h1.plain rfl) .nil) rfl trivial hl
 ·rename_i p esz len lo
  refine Spec.fsumm (σ := [p.blk]) (d := 20) hl fun Bs a₀ hlen h0 => ?_
  split at h0
  ·obtain ⟨L, ⟨rfl, hn, hll⟩, hok, hf, hK⟩ := h0
   exact ⟨_, _, _, _, _, .rows hf (.evM Zff (ZkC _ _ L _ hn hll hok rfl)), Nat.le_refl 1, .ret _ _ rfl, .cons 0 _ _ _ _ _ rfl (.rows _ _ _ fun i _ => Xg _ i) .nil, hK⟩
  ·exact h0.elim
 ·exact hl.elim
end Go.Tk
end
section
namespace Go.Tk
open IntKind (i64 u8 u32 u64 wrap)
def Z5t : Nat → List AV := fun _ => []
theorem Zji (X : Nat) (hn : X = X) :
  evF G0 20 67 [.nilslice] ⟨0, []⟩ (Yc 0 (.ret (.nslice ⟨0, 0, 34, 0, 0⟩ 34 0 0)) 1 [(0, .rows 34 0 Z5t)]) := by
 refine @Eq.mpr _ (True) (by kernel_rfl) ?_
 trivial
theorem Zjj (X : Nat) (hn : X = X) :
  evF G0 20 67 [.fslice] ⟨0, []⟩ (Yc 0 (.ret (.nslice ⟨0, 0, 34, 0, 0⟩ 34 0 0)) 1 [(0, .rows 34 0 Z5t)]) := by
 refine @Eq.mpr _ (Zc 0 [(0, 0)] 0 Z5t (Yf 0 (fun (x : Nat) => []) fun (x : Nat) => []) ∧ True) (by kernel_rfl) ?_
 exact ⟨⟨fun i hi => absurd hi (Nat.not_lt_zero i)⟩, trivial⟩
def Zhp : Y9 := fun args h K => match args with
 | [.eslice] => K (.ret (.nslice ⟨h.next, 0, 34, 0, 0⟩ 34 0 0)) ⟨h.next + 1, (h.next, .rows 34 0 Z5t) :: h.bs⟩
 | _ => False
theorem Zfg (args : List AV) (h : Z7) (K : KO) (hl : Zhp args h K) : Zk PP 67 args h K := by
 unfold Zhp at hl
 split at hl
 ·refine Zk.eslice ?_ ?_
  ·exact (ZB.evM Zu (Zji 0 rfl)).calls (fun E w rs he hr => by
    cases hr with
    | cons v r vs rs h1 h2 => cases h2; exact .cons _ _ _ _ (h1.plain rfl) .nil) rfl ⟨Nat.one_pos, .rows _ _ _ (fun i hi => absurd hi (Nat.not_lt_zero i)), trivial⟩ hl
  ·exact (ZB.evM Zu (Zjj 0 rfl)).calls (fun E w rs he hr => by
    cases hr with
    | cons v r vs rs h1 h2 => cases h2; exact .cons _ _ _ _ (h1.plain rfl) .nil) rfl ⟨Nat.one_pos, .rows _ _ _ (fun i hi => absurd hi (Nat.not_lt_zero i)), trivial⟩ hl
 ·exact hl.elim
end Go.Tk
end
section
namespace Go.Tk
open IntKind (i64 u8 u32 u64 wrap)
structure Ze.Okb (m : Ze) : Prop where
 ok : m.Ok
 hb : Bytes m.o.hash
theorem ZhP {O P : List Ze} {c i : Nat} (hc : O.length = c) : Yf c (Zt O) (Zt P) i = Zt (O ++ P) i := by
 unfold Zt
 rcases Nat.lt_or_ge i c with h | h
 ·rw [UX h, List.getD_eq_getElem?_getD, List.getD_eq_getElem?_getD, List.getElem?_append_left (by omega)]
 ·rw [XW h, List.getD_eq_getElem?_getD, List.getD_eq_getElem?_getD, List.getElem?_append_right (by omega), hc]
theorem Xl {f : Nat → List AV} {O : List Ze} {x : Ze} {c i : Nat} (hc : O.length = c) (hf : ∀ i, i < c → f i = Zt O i) (hi : i < c + 1) : Yf c f (ZO (Ze.c x) 0 134) i = Zt (O ++ [x]) i := by
 rcases Nat.lt_or_ge i c with h | h
 ·rw [UX h, hf i h]
  unfold Zt
  rw [List.getD_eq_getElem?_getD, List.getD_eq_getElem?_getD, List.getElem?_append_left (by omega)]
 ·have e : i = c := by omega
  subst e
  rw [XW (Nat.le_refl _), Nat.sub_self]
  unfold Zt
  rw [List.getD_eq_getElem?_getD, List.getElem?_append_right (by omega), hc, Nat.sub_self]
  rfl
end Go.Tk
end
section
namespace Go.Tk
open IntKind (i64 u8 u32 u64 wrap)
def X9 (t : Zo) : InS := ⟨t.fund, t.index, 1, Z5, Z5, Z5⟩
def ZK (L : List Ze) : Nat → Zs := fun i => (L.getD i ZI).o
def txZ : List AV := [.int .i64 0, .nilslice, .nilslice]
def mxH (t : Zo) (num : Int) (L : List Ze) (i : Nat) : Z7 := ⟨4, [(0, .flat txZ), (1, .flat (InS.c (X9 t))), (2, .flat [.int .i64 num, .nslice ⟨1, 0, 0, 0, 0⟩ 130 1 1, .nslice ⟨3, 0, 132, 0, 0⟩ 132 i i]), (3, .rows 132 i (Z8 (ZK L)))]⟩
def mxS (t : Zo) (num : Int) (L : List Ze) (n i : Nat) : St := ⟨40, [(27, .int .i64 i), (26, .int .i64 n), (25, .vrows 134 n (Zt L) n), (8, .ptr (some ⟨2, 0, 0, 0, 0⟩)), (6, .ptr (some ⟨0, 0, 0, 0, 0⟩))], mxH t num L i, []⟩
def mxE (t : Zo) (num : Int) (L : List Ze) (i : Nat) : St := ⟨40, [(8, .ptr (some ⟨2, 0, 0, 0, 0⟩)), (6, .ptr (some ⟨0, 0, 0, 0, 0⟩))], mxH t num L i, []⟩
theorem Z8f {L : List Ze} {i j : Nat} (hj : j < i + 1) : Yf i (Z8 (ZK L)) (ZO (Zs.c (L.getD i ZI).o) 0 132) j = (ZK L j).c := by
 rcases Nat.lt_or_ge j i with h | h
 ·rw [UX h]; rfl
 ·have e : j = i := by omega
  subst e
  rw [XW (Nat.le_refl _), Nat.sub_self]
  rfl
theorem ZkE (t : Zo) (num : Int) (L : List Ze) (n i : Nat) (Z1 Z2 : Prop) (hn : n < 1000) (hi : i ≤ n) (h1 : i < n → Z1) (h2 : i = n → Z2) :
  ZF G0 20 28 0 0 (mxS t num L n i) (rdM 0 0 9 (mxS t num L n (i + 1)) (mxE t num L i) (mxE t num L i) (mxE t num L i) Z1 Z2 False False) := by
 refine @Eq.mpr _ (let q1 := decide (i = i);
 let q2 := i + 1;
 let q3 := decide (n = n);
 let q4 := X9 t;
 let q5 := q4.name;
 let q6 := q5 = q5;
 let q7 := q4.index;
 let q8 := decide (q7 = q7);
 let q9 := q4.tag;
 let q10 := q9 = q9;
 let q11 := q4.also;
 let q12 := q11 = q11;
 let q13 := q4.secret;
 let q14 := q13 = q13;
 let q15 := decide (num = num);
 let q16 := decide (q2 = q2);
 let q17 := [(1, 1), (0, 0), (2, 2)];
 let q18 := Z8 (ZK L);
 let q19 := (List.getD L (Int.toNat (↑i : Int)) ZI).o;
 Z0 (decide ((↑i : Int) < (↑n : Int))) (Z0 (decide (0 ≤ (↑i : Int) ∧ (↑i : Int) < (↑n : Int))) (Z0 q1 (Z0 (decide (q2 * 160 ≤ 140737488355328)) (Z0 (decide (wrap i64 ((↑i : Int) + 1) = (↑q2 : Int))) (Z0 (decide ((↑n : Int) = (↑n : Int))) (Z0 q3 (Zt L = Zt L ∧ Z0 q3 (q6 ∧ Z0 q8 (q10 ∧ q12 ∧ q14 ∧ Z0 q15 (Z0 q16 (Z0 (decide (q2 ≤ q2)) (Z0 q16 (Zc 0 ((3, 6) :: q17) q2 q18 (Yf i q18 (ZO [AV.int i64 q19.kind, AV.int i64 q19.amount, AV.arr u8 32 q19.owner, AV.arr u8 32 q19.other, AV.arr u8 32 q19.point, AV.arr u8 32 q19.hash, AV.int i64 q19.delay, AV.int i64 q19.expiry] 0 132)) ∧ Z1) False) False) False) False) False) False) False) False) False) False) False) False) (q6 ∧ Z0 q8 (q10 ∧ q12 ∧ q14 ∧ Z0 q15 (Z0 q1 (Z0 (decide (i ≤ i)) (Z0 q1 (Zc 0 ((3, 3) :: q17) i q18 q18 ∧ Z2) False) False) False) False) False)) (by kernel_rfl) ?_
 conv => zeta
 try simp only [Zg]
 try simp only [Zl]
 try simp only [Zh]
 try simp only [Zm]
 try simp only [Zn]
 try simp only [Zf]
 try simp only [Int.toNat_natCast, Nat.zero_add, true_and, and_true, Nat.le_refl]
 refine ⟨fun hc => ?_, fun hc => ⟨Y7 fun _ _ => rfl, h2 (by omega)⟩⟩
 exact ⟨by omega, by omega, by rw [w64 (by omega)]; omega, Y7 fun j hj => Z8f hj, h1 (by omega)⟩
noncomputable def E85 (t : Zo) (num : Int) (L : List Ze) (n : Nat) : Zd := G0.withL 28 0 (goM 0 (mxS t num L n 0) (n < 1000) (Ym 0 n 9 (fun i => i < n) (fun i => i = n) (fun _ => False) (fun _ => False) (fun i => mxE t num L i) (fun i => mxE t num L i) (fun i => mxE t num L i)))
theorem Zhq (t : Zo) (num : Int) (L : List Ze) (n : Nat) : (E85 t num L n).Ok :=
 Zd.withGoM (N := 20) (S := fun i => mxS t num L n i) Zu (by kernel_rfl) fun hC => ⟨rfl, fun i hi _ => ZkE t num L n i _ _ hC hi (fun h => ⟨h, h⟩) (fun h => h)⟩
theorem ZkF (t : Zo) (num : Int) (L : List Ze) (n : Nat) (hn : n < 1000) (h0 : n ≠ 0) :
  evF (E85 t num L n) 20 28 [.agg t.c, .int .i64 num, .vrows 134 n (Zt L) n] ⟨0, []⟩ (Yc 0 (.ret (.tuple [.agg [.int .i64 num, .nslice ⟨0, 0, 0, 0, 0⟩ 130 1 1, .nslice ⟨1, 0, 132, 0, 0⟩ 132 n n], .int .i64 0])) 2 [(0, .flat (InS.c (X9 t))), (1, .rows 132 n (Z8 (ZK L)))]) := by
 refine @Eq.mpr _ (let q1 := decide (n = n);
 let q2 := X9 t;
 let q3 := q2.name;
 let q4 := q2.index;
 let q5 := q2.tag;
 let q6 := q2.also;
 let q7 := q2.secret;
 let q8 := decide (num = num);
 let q9 := Z8 (ZK L);
 Z0 ((↑n : Int) == 0) (Z0 (decide (0 = num)) False False)
 (Z0 (decide ((↑n : Int) = (↑n : Int)))
 (Z0 q1
 (Zt L = Zt L ∧
 Z0 q1
 (t.fund = q3 ∧
 Z0 (decide (t.index = q4))
 (Z5 = q5 ∧
 Z5 = q6 ∧
 Z5 = q7 ∧
 Z0 q8
 (n < 1000 ∧
 ∀ (i : Nat),
 let q19 := decide (i = n);
 i ≤ n → (∀ (j : Nat), j < i → (fun (i : Nat) => i < n) j) → (i = n → Z0 q8 (Z0 q19 (Z0 (decide (n ≤ i)) (q3 = q3 ∧ Z0 (decide (q4 = q4)) (q5 = q5 ∧ q6 = q6 ∧ q7 = q7 ∧ Z0 q19 (Zc 0 [(1, 3), (0, 1)] n q9 q9 ∧ True) False) False) False) False) False) ∧ (False → False) ∧ (False → False))
 False)
 False)
 False)
 False)
 False)) (by kernel_rfl) ?_
 conv => zeta
 try simp only [Zg]
 try simp only [Zl]
 try simp only [Zh]
 try simp only [Zm]
 try simp only [Zn]
 try simp only [Zf]
 try simp only [Int.toNat_natCast, Nat.zero_add, true_and, and_true, Nat.le_refl]
 refine ⟨fun h => ?_, fun _ => ⟨rfl, rfl, rfl, rfl, rfl, hn, fun i hi _ => ⟨fun he => ?_, fun h => h.elim, fun h => h.elim⟩⟩⟩
 ·have : (n : Int) = 0 := by simpa using h
  omega
 ·subst he
  exact ⟨rfl, Nat.le_refl _, rfl, Y7 fun _ _ => rfl⟩
end Go.Tk
end
section
namespace Go.Tk
open IntKind (i64 u8 u32 u64 wrap)
theorem ZU {l : List Ze} : (Zp l).length = l.length := by unfold Zp; rw [Z14]; simp
theorem XX (x : Ze) (i : Nat) (hi : i < 1) : Yf 0 (fun _ => []) (ZO (Ze.c x) 0 134) i = Zt [x] i := Xl (O := []) rfl (fun k hk => absurd hk (Nat.not_lt_zero k)) hi
theorem X3 (x y : Ze) (i : Nat) (hi : i < 2) : Yf 1 (Yf 0 (fun _ => []) (ZO (Ze.c x) 0 134)) (ZO (Ze.c y) 0 134) i = Zt [x, y] i := Xl (O := [x]) rfl (fun k hk => XX x k hk) hi
theorem Z38 {c : Bool} : (((if c = true then (0 : Int) else 2) != 0) = true ↔ c = false) ∧ (((if c = true then (0 : Int) else 2) != 0) = false ↔ c = true) := by cases c <;> simp
theorem Z39 : Bytes Z5 := ⟨fun i => by
 have h : Z5 = List.replicate 32 0 := rfl
 rw [h, List.getD_eq_getElem?_getD, List.getElem?_replicate]
 split <;> simp⟩
end Go.Tk
end
section
namespace Go.Tk
open IntKind (i64 u8 u32 u64 wrap)
theorem Z8g (t : TxS) : V7 t t = true := by
 unfold V7 Z3C Z3D
 simp [Z2U, UA]
def txM (t : Zo) (num : Int) (L : List Ze) : TxS := ⟨num, 1, fun _ => X9 t, L.length, ZK L⟩
theorem Zhr {t : Zo} {num : Int} {L : List Ze} (hf : t.fund.length = 32) (hl : L.length < 1000) (hok : ∀ m ∈ L, m.Ok) : (txM t num L).Ok :=
 ⟨by show 1 < _; decide, by show L.length < _; omega, fun _ _ => ⟨hf, rfl, rfl, rfl⟩, fun i hi => by
  have := Z1M hok (show i < L.length from hi)
  exact ⟨this.owner, this.other, this.point, this.hash⟩⟩
end Go.Tk
end
section
namespace Go.Tk
open IntKind (i64 u8 u32 u64 wrap)
def hsh (n : Int) : List Int := n :: List.replicate 31 0
def t8 : Zo := ⟨Z5, 0, 1000, 10, 5, 3, hsh 1, hsh 2⟩
def Zhs : List AV := [.int .i64 0, .int .i64 0, .arr .u8 32 Z5, .arr .i64 2 [600, 400], .nilslice]
def mA1 : Ze := ⟨⟨3, 595, hsh 1, Z5, Z5, Z5, 3, 0⟩, 0, -1⟩
def mA2 : Ze := ⟨⟨1, 400, hsh 2, Z5, Z5, Z5, 0, 0⟩, 0, -2⟩
def mB1 : Ze := ⟨⟨3, 380, hsh 2, Z5, Z5, Z5, 3, 0⟩, 0, -1⟩
def mB2 : Ze := ⟨⟨1, 595, hsh 1, Z5, Z5, Z5, 0, 0⟩, 0, -2⟩
def mB3 : Ze := ⟨⟨5, 20, hsh 2, hsh 1, Z5, Z5, 3, 9⟩, 0, 0⟩
def mC1 : Ze := ⟨⟨1, 400, hsh 2, Z5, Z5, Z5, 0, 0⟩, 1, 0⟩
def Zht : Y9 := fun args h K => match args with
 | [.nslice p esz len lo] => match h.get p.blk with
  | some (.rows 134 m f) => match Nat.beq m len && Nat.beq p.row 0 && Nat.beq p.sz 134 && Nat.beq p.off 0 && Nat.beq p.inn 0 && Nat.beq esz 134 with
   | true => match m with
    | 1 => (∀ i, i < 1 → f i = Zt [mC1] i) ∧ K (.ret (.nslice ⟨p.blk, 0, 134, 0, 0⟩ 134 1 lo)) ⟨h.next, (p.blk, .rows 134 1 (Zt [mC1])) :: XO h.bs p.blk⟩
    | 2 => (∀ i, i < 2 → f i = Zt [mA1, mA2] i) ∧ K (.ret (.nslice ⟨p.blk, 0, 134, 0, 0⟩ 134 2 lo)) ⟨h.next, (p.blk, .rows 134 2 (Zt [mA2, mA1])) :: XO h.bs p.blk⟩
    | 3 => (∀ i, i < 3 → f i = Zt [mB1, mB2, mB3] i) ∧ K (.ret (.nslice ⟨p.blk, 0, 134, 0, 0⟩ 134 3 lo)) ⟨h.next, (p.blk, .rows 134 3 (Zt [mB3, mB1, mB2])) :: XO h.bs p.blk⟩
    | _ => False
   | false => False
  | _ => False
 | _ => False
theorem Zhu (args : List AV) (h : Z7) (K : KO) (hl : Zht args h K) : Zk PP 58 args h K := by
 unfold Zht at hl
 split at hl
 ·rename_i p esz len lo
  split at hl
  ·rename_i m f hg
   split at hl
   ·rename_i hb
    simp only [Bool.and_eq_true] at hb
    obtain ⟨⟨⟨⟨⟨h1, h2⟩, h3⟩, h4⟩, h5⟩, h6⟩ := hb
    have g1 := Nat.eq_of_beq_eq_true h1
    clear h1
    have g2 := Nat.eq_of_beq_eq_true h2
    clear h2
    have g3 := Nat.eq_of_beq_eq_true h3
    clear h3
    have g4 := Nat.eq_of_beq_eq_true h4
    clear h4
    have g5 := Nat.eq_of_beq_eq_true h5
    clear h5
    have g6 := Nat.eq_of_beq_eq_true h6
    clear h6
    obtain ⟨blk, row, sz, off, inn⟩ := p
    simp only at g2 g3 g4 g5 hg
    subst g1 g2 g3 g4 g5 g6
    have key : ∀ (L L' : List Ze), L.length = m → m < 20 → (∀ x ∈ L, x.Ok) → Zp L = L' → (∀ i, i < m → f i = Zt L i) → K (.ret (.nslice ⟨blk, 0, 134, 0, 0⟩ 134 m lo)) ⟨h.next, (blk, .rows 134 m (Zt L')) :: XO h.bs blk⟩ → Zk PP 58 [.nslice ⟨blk, 0, 134, 0, 0⟩ 134 m lo] h K := by
     intro L L' k1 k2 k3 k4 k5 hK
     subst k4
     refine ZcU _ _ _ ?_
     unfold orF
     refine Zf7 hg (fun i hi => by rw [k5 i hi]; exact Xg L i) ?_
     exact ⟨L, ⟨rfl, k2, k1⟩, k3, k5, hK⟩
    have z32 : Z5.length = 32 := rfl
    have l1 : (hsh 1).length = 32 := rfl
    have l2 : (hsh 2).length = 32 := rfl
    split at hl
    ·exact key [mC1] [mC1] rfl (by decide) (fun x hx => by simp only [List.mem_cons, List.not_mem_nil, or_false] at hx; subst hx; exact ⟨l2, z32, z32, z32⟩) rfl hl.1 hl.2
    ·exact key [mA1, mA2] [mA2, mA1] rfl (by decide) (fun x hx => by simp only [List.mem_cons, List.not_mem_nil, or_false] at hx; rcases hx with rfl | rfl <;> exact ⟨by assumption, z32, z32, z32⟩) rfl hl.1 hl.2
    ·exact key [mB1, mB2, mB3] [mB3, mB1, mB2] rfl (by decide) (fun x hx => by simp only [List.mem_cons, List.not_mem_nil, or_false] at hx; rcases hx with rfl | rfl | rfl <;> exact ⟨by assumption, by assumption, z32, z32⟩) rfl hl.1 hl.2
    ·exact hl.elim
   ·exact hl.elim
  ·exact hl.elim
 ·exact hl.elim
noncomputable def E88 : Zd := G0.withF 58 Zht
theorem Z3a : E88.Ok := Zd.withF_ok Zu Zhu
theorem coA (X : Nat) (hx : X = X) :
  evF E88 20 9 [.agg t8.c, .agg Zhs] ⟨0, []⟩ (Yc 0 (.ret (.tuple [.agg [.int .i64 0, .nslice ⟨0, 0, 0, 0, 0⟩ 130 1 1, .nslice ⟨1, 0, 132, 0, 0⟩ 132 2 2], .int .i64 0])) 2 [(0, .flat (InS.c (X9 t8))), (1, .rows 132 2 (Z8 (fun i => match i with | 0 => ⟨1, 400, hsh 2, Z5, Z5, Z5, 0, 0⟩ | _ => ⟨3, 595, hsh 1, Z5, Z5, Z5, 3, 0⟩)))]) := by
 refine @Eq.mpr _ (let q1 := t8.k1;
 let q2 := q1 = q1;
 let q3 := t8.k0;
 let q4 := q3 = q3;
 let q5 := AV.arr u8 32 Z5;
 let q6 := AV.int i64 0;
 let q7 := t8.fund;
 let q8 := X9 t8;
 let q9 := mA2.o;
 let q10 := mA1.o;
 q2 ∧
 q4 ∧
 q2 ∧
 q4 ∧
 q2 ∧
 q4 ∧
 q2 ∧
 q4 ∧
 q2 ∧
 q4 ∧
 q2 ∧
 q2 ∧
 q2 ∧
 (∀ (i : Nat), i < 2 → Yf 1 (Yf 0 (fun (x : Nat) => []) (ZO [AV.int i64 3, AV.int i64 595, AV.arr u8 32 q3, q5, q5, q5, AV.int i64 t8.delay, q6, q6, AV.int i64 (-1)] 0 134)) (ZO [AV.int i64 1, AV.int i64 400, AV.arr u8 32 q1, q5, q5, q5, q6, q6, q6, AV.int i64 (-2)] 0 134) i = Zt [mA1, mA2] i) ∧
 q7 = q7 ∧
 q4 ∧
 q2 ∧
 q7 = q8.name ∧
 Z5 = q8.tag ∧
 Z5 = q8.also ∧
 Z5 = q8.secret ∧
 Zc 0 [(1, 34), (0, 27)] 2
 (Z8 fun (i : Nat) =>
 match i with
 | 0 => Zs.mk 1 400 (hsh 2) Z5 Z5 Z5 0 0
 | x => Zs.mk 3 595 (hsh 1) Z5 Z5 Z5 3 0)
 (Yf 1 (Yf 0 (fun (x : Nat) => []) (ZO [AV.int i64 q9.kind, AV.int i64 q9.amount, AV.arr u8 32 q9.owner, AV.arr u8 32 q9.other, AV.arr u8 32 q9.point, AV.arr u8 32 q9.hash, AV.int i64 q9.delay, AV.int i64 q9.expiry] 0 132)) (ZO [AV.int i64 q10.kind, AV.int i64 q10.amount, AV.arr u8 32 q10.owner, AV.arr u8 32 q10.other, AV.arr u8 32 q10.point, AV.arr u8 32 q10.hash, AV.int i64 q10.delay, AV.int i64 q10.expiry] 0 132)) ∧
 True) (by kernel_rfl) ?_
 conv => zeta
 have e3 : ∀ i : Nat, i < 3 → i = 0 ∨ i = 1 ∨ i = 2 := by omega
 and_intros
 all_goals first
  | rfl
  | trivial
  | (intro i hi; exact XX mC1 i hi)
  | (intro i hi; exact X3 mA1 mA2 i hi)
  | (intro i hi; exact Xl (O := [mB1, mB2]) (x := mB3) (c := 2) rfl (fun k hk => X3 mB1 mB2 k hk) hi)
  | (refine Y7 fun i hi => ?_; rcases e3 i (by omega) with rfl | rfl | rfl <;> first | rfl | omega)
def pdC : List AV := [.int .i64 0, .int .i64 0, .int .i64 20, .arr .u8 32 Z5, .int .i64 9]
def ZaI : List AV := [.int .i64 0, .int .i64 1, .arr .u8 32 Z5, .arr .i64 2 [600, 380], .vrows 36 1 (ZO pdC 0 36) 1]
def Zhv : List AV := [.int .i64 0, .int .i64 0, .arr .u8 32 Z5, .arr .i64 2 [600, 401], .nilslice]
theorem coB (X : Nat) (hx : X = X) :
  evF E88 20 9 [.agg t8.c, .agg ZaI] ⟨0, []⟩ (Yc 0 (.ret (.tuple [.agg [.int .i64 0, .nslice ⟨0, 0, 0, 0, 0⟩ 130 1 1, .nslice ⟨1, 0, 132, 0, 0⟩ 132 3 3], .int .i64 0])) 2 [(0, .flat (InS.c (X9 t8))), (1, .rows 132 3 (Z8 (fun i => match i with | 0 => ⟨5, 20, hsh 2, hsh 1, Z5, Z5, 3, 9⟩ | 1 => ⟨3, 380, hsh 2, Z5, Z5, Z5, 3, 0⟩ | _ => ⟨1, 595, hsh 1, Z5, Z5, Z5, 0, 0⟩)))]) := by
 refine @Eq.mpr _ (let q1 := t8.k1;
 let q2 := q1 = q1;
 let q3 := t8.k0;
 let q4 := q3 = q3;
 let q5 := AV.arr u8 32 q1;
 let q6 := AV.arr u8 32 Z5;
 let q7 := AV.int i64 t8.delay;
 let q8 := AV.int i64 0;
 let q9 := AV.arr u8 32 q3;
 let q10 := t8.fund;
 let q11 := X9 t8;
 let q12 := mB3.o;
 let q13 := mB1.o;
 let q14 := mB2.o;
 q2 ∧
 q4 ∧
 q2 ∧
 q4 ∧
 q2 ∧
 q4 ∧
 q2 ∧
 q4 ∧
 q2 ∧
 q4 ∧
 q4 ∧
 q4 ∧
 q4 ∧
 (∀ (i : Nat), i < 3 → Yf 2 (Yf 1 (Yf 0 (fun (x : Nat) => []) (ZO [AV.int i64 3, AV.int i64 380, q5, q6, q6, q6, q7, q8, q8, AV.int i64 (-1)] 0 134)) (ZO [AV.int i64 1, AV.int i64 595, q9, q6, q6, q6, q8, q8, q8, AV.int i64 (-2)] 0 134)) (ZO [AV.int i64 5, AV.int i64 20, q5, q9, q6, q6, q7, AV.int i64 9, q8, q8] 0 134) i = Zt [mB1, mB2, mB3] i) ∧
 q10 = q10 ∧
 q4 ∧
 q2 ∧
 q10 = q11.name ∧
 Z5 = q11.tag ∧
 Z5 = q11.also ∧
 Z5 = q11.secret ∧
 Zc 0 [(1, 47), (0, 37)] 3
 (Z8 fun (i : Nat) =>
 match i with
 | 0 => Zs.mk 5 20 (hsh 2) (hsh 1) Z5 Z5 3 9
 | 1 => Zs.mk 3 380 (hsh 2) Z5 Z5 Z5 3 0
 | x => Zs.mk 1 595 (hsh 1) Z5 Z5 Z5 0 0)
 (Yf 2 (Yf 1 (Yf 0 (fun (x : Nat) => []) (ZO [AV.int i64 q12.kind, AV.int i64 q12.amount, AV.arr u8 32 q12.owner, AV.arr u8 32 q12.other, AV.arr u8 32 q12.point, AV.arr u8 32 q12.hash, AV.int i64 q12.delay, AV.int i64 q12.expiry] 0 132)) (ZO [AV.int i64 q13.kind, AV.int i64 q13.amount, AV.arr u8 32 q13.owner, AV.arr u8 32 q13.other, AV.arr u8 32 q13.point, AV.arr u8 32 q13.hash, AV.int i64 q13.delay, AV.int i64 q13.expiry] 0 132)) (ZO [AV.int i64 q14.kind, AV.int i64 q14.amount, AV.arr u8 32 q14.owner, AV.arr u8 32 q14.other, AV.arr u8 32 q14.point, AV.arr u8 32 q14.hash, AV.int i64 q14.delay, AV.int i64 q14.expiry] 0 132)) ∧
 True) (by kernel_rfl) ?_
 conv => zeta
 have e3 : ∀ i : Nat, i < 3 → i = 0 ∨ i = 1 ∨ i = 2 := by omega
 and_intros
 all_goals first
  | rfl
  | trivial
  | (intro i hi; exact XX mC1 i hi)
  | (intro i hi; exact X3 mA1 mA2 i hi)
  | (intro i hi; exact Xl (O := [mB1, mB2]) (x := mB3) (c := 2) rfl (fun k hk => X3 mB1 mB2 k hk) hi)
  | (refine Y7 fun i hi => ?_; rcases e3 i (by omega) with rfl | rfl | rfl <;> first | rfl | omega)
theorem coC (X : Nat) (hx : X = X) :
  evF E88 20 9 [.agg t8.c, .agg Zhv] ⟨0, []⟩ (Yc 0 (.ret (.tuple [.agg txZ, .int .i64 2])) 0 []) := by
 refine @Eq.mpr _ (let q1 := t8.k1 = t8.k1;
 let q2 := t8.k0 = t8.k0;
 q1 ∧ q2 ∧ q1 ∧ q2 ∧ q1 ∧ q2 ∧ q1 ∧ q2 ∧ q1 ∧ q2 ∧ True) (by kernel_rfl) ?_
 conv => zeta
 have e3 : ∀ i : Nat, i < 3 → i = 0 ∨ i = 1 ∨ i = 2 := by omega
 and_intros
 all_goals first
  | rfl
  | trivial
  | (intro i hi; exact XX mC1 i hi)
  | (intro i hi; exact X3 mA1 mA2 i hi)
  | (intro i hi; exact Xl (O := [mB1, mB2]) (x := mB3) (c := 2) rfl (fun k hk => X3 mB1 mB2 k hk) hi)
  | (refine Y7 fun i hi => ?_; rcases e3 i (by omega) with rfl | rfl | rfl <;> first | rfl | omega)
theorem plB (X : Nat) (hx : X = X) :
  evF E88 20 10 [.agg t8.c, .agg ZaI] ⟨0, []⟩ (Yc 0 (.ret (.tuple [.nslice ⟨0, 0, 0, 0, 0⟩ 1 1 1, .int .i64 1, .int .i64 2, .int .i64 0])) 1 [(0, .ints .i64 [0])]) := by
 refine @Eq.mpr _ (let q1 := t8.k1;
 let q2 := q1 = q1;
 let q3 := t8.k0;
 let q4 := q3 = q3;
 let q5 := AV.arr u8 32 q1;
 let q6 := AV.arr u8 32 Z5;
 let q7 := AV.int i64 t8.delay;
 let q8 := AV.int i64 0;
 let q9 := AV.arr u8 32 q3;
 q2 ∧
 q4 ∧
 q2 ∧
 q4 ∧ q2 ∧ q4 ∧ q2 ∧ q4 ∧ q2 ∧ q4 ∧ q4 ∧ q4 ∧ q4 ∧ (∀ (i : Nat), i < 3 → Yf 2 (Yf 1 (Yf 0 (fun (x : Nat) => []) (ZO [AV.int i64 3, AV.int i64 380, q5, q6, q6, q6, q7, q8, q8, AV.int i64 (-1)] 0 134)) (ZO [AV.int i64 1, AV.int i64 595, q9, q6, q6, q6, q8, q8, q8, AV.int i64 (-2)] 0 134)) (ZO [AV.int i64 5, AV.int i64 20, q5, q9, q6, q6, q7, AV.int i64 9, q8, q8] 0 134) i = Zt [mB1, mB2, mB3] i) ∧ t8.fund = t8.fund ∧ q4 ∧ q2 ∧ q4 ∧ q4 ∧ q4 ∧ (∀ (i : Nat), i < 3 → Yf 2 (Yf 1 (Yf 0 (fun (x : Nat) => []) (ZO [AV.int i64 3, AV.int i64 380, q5, q6, q6, q6, q7, q8, q8, AV.int i64 (-1)] 0 134)) (ZO [AV.int i64 1, AV.int i64 595, q9, q6, q6, q6, q8, q8, q8, AV.int i64 (-2)] 0 134)) (ZO [AV.int i64 5, AV.int i64 20, q5, q9, q6, q6, q7, AV.int i64 9, q8, q8] 0 134) i = Zt [mB1, mB2, mB3] i) ∧ [(0 : Int)] = [(0 : Int)] ∧ True) (by kernel_rfl) ?_
 conv => zeta
 have e3 : ∀ i : Nat, i < 3 → i = 0 ∨ i = 1 ∨ i = 2 := by omega
 and_intros
 all_goals first
  | rfl
  | trivial
  | (intro i hi; exact XX mC1 i hi)
  | (intro i hi; exact X3 mA1 mA2 i hi)
  | (intro i hi; exact Xl (O := [mB1, mB2]) (x := mB3) (c := 2) rfl (fun k hk => X3 mB1 mB2 k hk) hi)
  | (refine Y7 fun i hi => ?_; rcases e3 i (by omega) with rfl | rfl | rfl <;> first | rfl | omega)
theorem clA (X : Nat) (hx : X = X) :
  evF E88 20 26 [.agg t8.c, .agg [.arr .i64 2 [600, 400]], .int .i64 600] ⟨0, []⟩ (Yc 0 (.ret (.tuple [.agg [.int .i64 2147483647, .nslice ⟨0, 0, 0, 0, 0⟩ 130 1 1, .nslice ⟨1, 0, 132, 0, 0⟩ 132 1 1], .int .i64 0])) 2 [(0, .flat (InS.c (X9 t8))), (1, .rows 132 1 (Z8 (fun _ => ⟨1, 400, hsh 2, Z5, Z5, Z5, 0, 0⟩)))]) := by
 refine @Eq.mpr _ (let q1 := t8.k1;
 let q2 := q1 = q1;
 let q3 := t8.k0 = t8.k0;
 let q4 := AV.arr u8 32 Z5;
 let q5 := AV.int i64 0;
 let q6 := t8.fund;
 let q7 := X9 t8;
 let q8 := mC1.o;
 q2 ∧ q3 ∧ q2 ∧ q3 ∧ q2 ∧ q3 ∧ q2 ∧ q3 ∧ q2 ∧ q3 ∧ (∀ (i : Nat), i < 1 → Yf 0 (fun (x : Nat) => []) (ZO [AV.int i64 1, AV.int i64 400, AV.arr u8 32 q1, q4, q4, q4, q5, q5, AV.int i64 1, q5] 0 134) i = Zt [mC1] i) ∧ q6 = q6 ∧ q3 ∧ q2 ∧ q6 = q7.name ∧ Z5 = q7.tag ∧ Z5 = q7.also ∧ Z5 = q7.secret ∧ Zc 0 [(1, 15), (0, 11)] 1 (Z8 fun (x : Nat) => Zs.mk 1 400 (hsh 2) Z5 Z5 Z5 0 0) (Yf 0 (fun (x : Nat) => []) (ZO [AV.int i64 q8.kind, AV.int i64 q8.amount, AV.arr u8 32 q8.owner, AV.arr u8 32 q8.other, AV.arr u8 32 q8.point, AV.arr u8 32 q8.hash, AV.int i64 q8.delay, AV.int i64 q8.expiry] 0 132)) ∧ True) (by kernel_rfl) ?_
 conv => zeta
 have e3 : ∀ i : Nat, i < 3 → i = 0 ∨ i = 1 ∨ i = 2 := by omega
 and_intros
 all_goals first
  | rfl
  | trivial
  | (intro i hi; exact XX mC1 i hi)
  | (intro i hi; exact X3 mA1 mA2 i hi)
  | (intro i hi; exact Xl (O := [mB1, mB2]) (x := mB3) (c := 2) rfl (fun k hk => X3 mB1 mB2 k hk) hi)
  | (refine Y7 fun i hi => ?_; rcases e3 i (by omega) with rfl | rfl | rfl <;> first | rfl | omega)
def Zjk : Y9 := fun args h K => ZH none h true 20 args fun a => match a with
 | [ct, .agg [nu, ow, po, .arr .i64 2 [x, y], pe]] => match decide (y = 400) with
  | true => ct = .agg t8.c ∧ AV.agg [nu, ow, po, .arr .i64 2 [x, y], pe] = .agg Zhs ∧ K (.ret (.tuple [.agg [.int .i64 0, .nslice ⟨h.next, 0, 0, 0, 0⟩ 130 1 1, .nslice ⟨h.next + 1, 0, 132, 0, 0⟩ 132 2 2], .int .i64 0])) ⟨h.next + 2, (h.next, .flat (InS.c (X9 t8))) :: (h.next + 1, .rows 132 2 (Z8 (fun i => match i with | 0 => ⟨1, 400, hsh 2, Z5, Z5, Z5, 0, 0⟩ | _ => ⟨3, 595, hsh 1, Z5, Z5, Z5, 3, 0⟩))) :: h.bs⟩
  | false => match decide (y = 380) with
   | true => ct = .agg t8.c ∧ AV.agg [nu, ow, po, .arr .i64 2 [x, y], pe] = .agg ZaI ∧ K (.ret (.tuple [.agg [.int .i64 0, .nslice ⟨h.next, 0, 0, 0, 0⟩ 130 1 1, .nslice ⟨h.next + 1, 0, 132, 0, 0⟩ 132 3 3], .int .i64 0])) ⟨h.next + 2, (h.next, .flat (InS.c (X9 t8))) :: (h.next + 1, .rows 132 3 (Z8 (fun i => match i with | 0 => ⟨5, 20, hsh 2, hsh 1, Z5, Z5, 3, 9⟩ | 1 => ⟨3, 380, hsh 2, Z5, Z5, Z5, 3, 0⟩ | _ => ⟨1, 595, hsh 1, Z5, Z5, Z5, 0, 0⟩))) :: h.bs⟩
   | false => ct = .agg t8.c ∧ AV.agg [nu, ow, po, .arr .i64 2 [x, y], pe] = .agg Zhv ∧ K (.ret (.tuple [.agg txZ, .int .i64 2])) h
 | _ => False
theorem Zhw (args : List AV) (h : Z7) (K : KO) (hl : Zjk args h K) : Zk PP 9 args h K := by
 refine ZB.fsumm (d := 20) (Zq _ _ _ _ _ hl fun a ha => ?_)
 split at ha
 ·split at ha
  ·obtain ⟨rfl, e, hK⟩ := ha
   rw [e]
   exact ⟨_, _, _, _, .evM Z3a (coA 0 rfl), rfl, ⟨by decide, .flat _ rfl, by decide, .rows _ _ _ (fun i _ => Zs.plainC _), trivial⟩, hK⟩
  ·split at ha
   ·obtain ⟨rfl, e, hK⟩ := ha
    rw [e]
    exact ⟨_, _, _, _, .evM Z3a (coB 0 rfl), rfl, ⟨by decide, .flat _ rfl, by decide, .rows _ _ _ (fun i _ => Zs.plainC _), trivial⟩, hK⟩
   ·obtain ⟨rfl, e, hK⟩ := ha
    rw [e]
    exact ⟨_, _, _, _, .evM Z3a (coC 0 rfl), rfl, trivial, hK⟩
 ·exact ha.elim
def Zjl : Y9 := fun args h K => ZH none h true 20 args fun a => a = [.agg t8.c, .agg ZaI] ∧ K (.ret (.tuple [.nslice ⟨h.next, 0, 0, 0, 0⟩ 1 1 1, .int .i64 1, .int .i64 2, .int .i64 0])) ⟨h.next + 1, (h.next, .ints .i64 [0]) :: h.bs⟩
theorem Zhx (args : List AV) (h : Z7) (K : KO) (hl : Zjl args h K) : Zk PP 10 args h K := by
 refine ZB.fsumm (d := 20) (Zq _ _ _ _ _ hl fun a ha => ?_)
 obtain ⟨rfl, hK⟩ := ha
 exact ⟨_, _, _, _, .evM Z3a (plB 0 rfl), rfl, ⟨by decide, .ints _ _, trivial⟩, hK⟩
def Zjm : Y9 := fun args h K => ZH none h true 20 args fun a => a = [.agg t8.c, .agg [.arr .i64 2 [600, 400]], .int .i64 600] ∧ K (.ret (.tuple [.agg [.int .i64 2147483647, .nslice ⟨h.next, 0, 0, 0, 0⟩ 130 1 1, .nslice ⟨h.next + 1, 0, 132, 0, 0⟩ 132 1 1], .int .i64 0])) ⟨h.next + 2, (h.next, .flat (InS.c (X9 t8))) :: (h.next + 1, .rows 132 1 (Z8 (fun _ => ⟨1, 400, hsh 2, Z5, Z5, Z5, 0, 0⟩))) :: h.bs⟩
theorem Zhy (args : List AV) (h : Z7) (K : KO) (hl : Zjm args h K) : Zk PP 26 args h K := by
 refine ZB.fsumm (d := 20) (Zq _ _ _ _ _ hl fun a ha => ?_)
 obtain ⟨rfl, hK⟩ := ha
 exact ⟨_, _, _, _, .evM Z3a (clA 0 rfl), rfl, ⟨by decide, .flat _ rfl, by decide, .rows _ _ _ (fun i _ => Zs.plainC _), trivial⟩, hK⟩
noncomputable def Zjn (A : List Int → Int × Int) (Nm : TxS → List Int) : Zd := (((((G0.withP 41 (Z6q A Nm)).withP 43 (ckS A)).withF 67 Zhp).withF 9 Zjk).withF 10 Zjl).withF 26 Zjm
theorem Zfh : (Zjn ZS Ys).Ok := Zd.withF_ok (Zd.withF_ok (Zd.withF_ok (Zd.withF_ok (Zd.withP_ok (Zd.withP_ok Zu Z2T) Z5c) Zfg) Zhw) Zhx) Zhy
theorem ZkG (A : List Int → Int × Int) (Nm : TxS → List Int) (b : Bool) (hA : A = ZS) (hN : Nm = Ys) (hb : b = true) :
  evF (Zjn A Nm) 20 8 [] ⟨0, []⟩ (Z0k (fun v => v = .bool b)) := by
 refine @Eq.mpr _ (let q1 := AV.arr u8 32 Z5;
 let q2 := AV.int i64 0;
 let q3 := [(0 : Int), 0, 0, 0, 0, 0, 0, 0, 0, 0, 0, 0, 0, 0, 0, 0, 0, 0, 0, 0, 0, 0, 0, 0, 0, 0, 0, 0, 0, 0, 0];
 let q4 := AV.agg [q1, q2, AV.int i64 1000, AV.int i64 10, AV.int i64 5, AV.int i64 3, AV.arr u8 32 ((1 : Int) :: q3), AV.arr u8 32 ((2 : Int) :: q3)];
 let q5 := AV.agg (Zo.c t8);
 let q6 := q4 = q5;
 let q7 := AV.arr i64 2 [(600 : Int), 400];
 let q8 := AV.agg [q2, AV.int i64 1, q1, AV.arr i64 2 [(600 : Int), 380], AV.vrows 36 1 (ZO [q2, q2, AV.int i64 20, q1, AV.int i64 9] 0 36) 1];
 let q9 := [AV.agg [q7], AV.int i64 600];
 let q10 := X9 t8;
 let q11 := AV.bool true = AV.bool b;
 q6 ∧
 AV.agg [q2, q2, q1, q7, AV.nilslice] = AV.agg Zhs ∧
 q6 ∧
 q8 = AV.agg ZaI ∧
 [q4, q8] = [q5, AV.agg ZaI] ∧
 q4 :: q9 = q5 :: q9 ∧
 q6 ∧
 AV.agg [q2, q2, q1, AV.arr i64 2 [(600 : Int), 401], AV.nilslice] = AV.agg Zhv ∧
 (∀ (i : Nat), i < 2 → true = true) ∧
 ∃ (t : TxS),
 (t.num = 0 ∧
 (((1 : Nat) = 1 ∧ t.N = 1) ∧ ∀ (i : Nat), i < 1 → ZO [AV.arr u8 32 q10.name, AV.int i64 q10.index, AV.int i64 q10.way, AV.arr u8 32 q10.tag, AV.arr u8 32 q10.also, AV.arr u8 32 q10.secret] 0 130 i = InS.c (t.ins i)) ∧
 ((2 : Nat) = 2 ∧ t.M = 2) ∧
 ∀ (i : Nat),
 let q23 :=
 match i with
 | 0 => Zs.mk 1 400 (hsh 2) Z5 Z5 Z5 0 0
 | x => Zs.mk 3 595 (hsh 1) Z5 Z5 Z5 3 0;
 i < 2 → [AV.int i64 q23.kind, AV.int i64 q23.amount, AV.arr u8 32 q23.owner, AV.arr u8 32 q23.other, AV.arr u8 32 q23.point, AV.arr u8 32 q23.hash, AV.int i64 q23.delay, AV.int i64 q23.expiry] = Zs.c (t.outs i)) ∧
 TxS.Ok t ∧ Z0 (Y6 A t) (∃ (t : TxS), (t.num = 0 ∧ t.N = 0 ∧ ((1 : Nat) = 1 ∧ t.M = 1) ∧ ∀ (i : Nat), i < 1 → ZO [AV.int i64 1, q2, q1, q1, q1, q1, q2, q2] 0 132 i = Zs.c (t.outs i)) ∧ TxS.Ok t ∧ Z0 (Y6 A t) (AV.bool false = AV.bool b) q11) q11) (by kernel_rfl) ?_
 conv => zeta
 try simp only [Zg]
 try simp only [Zl]
 try simp only [Zh]
 try simp only [Zm]
 try simp only [Zn]
 try simp only [Zf]
 try simp only [Int.toNat_natCast, Nat.zero_add, true_and, and_true, Nat.le_refl]
 subst hA
 have i0 : ∀ i : Nat, i < 1 → i = 0 := by omega
 have hT : (⟨0, 1, fun _ => X9 t8, 2, fun i => match i with | 0 => ⟨1, 400, hsh 2, Z5, Z5, Z5, 0, 0⟩ | _ => ⟨3, 595, hsh 1, Z5, Z5, Z5, 3, 0⟩⟩ : TxS).Ok :=
  ⟨by show 1 < _; decide, by show 2 < _; decide, fun _ _ => ⟨rfl, rfl, rfl, rfl⟩, fun i _ => by cases i <;> exact ⟨rfl, rfl, rfl, rfl⟩⟩
 have hU : (⟨0, 0, fun _ => inZ, 1, fun _ => ⟨1, 0, Z5, Z5, Z5, Z5, 0, 0⟩⟩ : TxS).Ok :=
  ⟨by show 0 < _; decide, by show 1 < _; decide, fun i hi => absurd hi (Nat.not_lt_zero i), fun _ _ => ⟨rfl, rfl, rfl, rfl⟩⟩
 refine ⟨rfl, rfl, rfl, rfl, rfl, rfl, rfl, rfl, fun _ _ => trivial, _, ⟨rfl, ⟨rfl, fun i hi => ?_⟩, rfl, fun i hi => rfl⟩, hT, fun _ => ⟨_, ⟨rfl, rfl, rfl, fun i hi => ?_⟩, hU, fun hc => ?_, fun _ => by rw [hb]⟩, fun _ => by rw [hb]⟩
 ·rw [i0 i hi]; rfl
 ·rw [i0 i hi]; rfl
 ·rw [← Z0Y] at hc
  unfold Z2W at hc
  simp at hc
theorem VK (args : List AV) (h : Z7) (K : AV → Prop) (hl : Va args h K) : Zk PP 8 args h fun o h' => ∃ v, o = .ret v ∧ h' = h ∧ K v := by
 unfold Va at hl
 split at hl
 ·exact XL Zfh rfl (ZkG _ _ _ rfl rfl rfl) (fun u hu => hu ▸ hl)
 ·exact hl.elim
end Go.Tk
end
section
namespace Go.Tk
open IntKind (i64 u8 u32 u64 wrap)
def termTy : List Ty := [.arr .u8 32, .int .i64, .int .i64, .int .i64, .int .i64, .int .i64, .arr .u8 32, .arr .u8 32]
theorem Z15 {n : Nat} {xs : List Int} (h : xs.length = n) (hw : ∀ i, i < n → (Lit.int .u8 (xs.getD i 0)).wf = true) : Bytes xs := ⟨fun i => by
 by_cases hi : i < n
 ·have := hw i hi
  simp [Lit.wf] at this
  have m1 : u8.min = 0 := rfl
  have m2 : u8.max = 255 := rfl
  simp
  omega
 ·rw [List.getD_eq_getElem?_getD, List.getElem?_eq_none (by omega)]; simp⟩
theorem Z8h {a : AV} (h : Z2V true termTy a) : ∃ t : Zo, a = .agg t.c ∧ t.Ok ∧ t.fund.length = 32 := by
 cases h with | agg _ u h =>
 unfold termTy at h
 cases h with | cons _ a1 _ u h1 h =>
 cases h with | cons _ a2 _ u h2 h =>
 cases h with | cons _ a3 _ u h3 h =>
 cases h with | cons _ a4 _ u h4 h =>
 cases h with | cons _ a5 _ u h5 h =>
 cases h with | cons _ a6 _ u h6 h =>
 cases h with | cons _ a7 _ u h7 h =>
 cases h with | cons _ a8 _ u h8 h =>
 cases h; cases h1; cases h2; cases h3; cases h4; cases h5; cases h6; cases h7; cases h8
 rename_i x1 l1 w1 x2 w2 x3 w3 x4 w4 x5 w5 x6 w6 x7 l7 w7 x8 l8 w8
 exact ⟨⟨x1, x2, x3, x4, x5, x6, x7, x8⟩, rfl, ⟨l7, l8, Z15 l7 w7, Z15 l8 w8⟩, l1⟩
end Go.Tk
end
section
namespace Go.Tk
open IntKind (i64 u8 u32 u64 wrap)
@[irreducible] def loH (a b : List Int) : List Int := if XD a b > 0 then b else a
@[irreducible] def hiH (a b : List Int) : List Int := if XD a b > 0 then a else b
theorem Zjo (a b lo hi : List Int) (ha : a.length = 32) (hb : b.length = 32) (hl : lo = loH a b) (hh : hi = hiH a b) :
  evF G0 20 50 [.agg [.arr .u8 32 a], .agg [.arr .u8 32 b]] ⟨0, []⟩ (Z0k (fun v => v = .tuple [.agg [.arr .u8 32 lo], .agg [.arr .u8 32 hi]])) := by
 refine @Eq.mpr _ (let q1 := AV.agg [AV.arr u8 32 b];
 let q2 := AV.agg [AV.arr u8 32 a];
 let q3 := AV.tuple [AV.agg [AV.arr u8 32 lo], AV.agg [AV.arr u8 32 hi]];
 Z0 (decide (u8 = u8 ∧ List.length a = 32)) (Z0 (decide (u8 = u8 ∧ List.length b = 32)) (Z0 (decide (XD a b > 0)) (a = a ∧ AV.tuple [q1, q2] = q3) (b = b ∧ AV.tuple [q2, q1] = q3)) False) False) (by kernel_rfl) ?_
 conv => zeta
 try simp only [Zg]
 try simp only [Zl]
 try simp only [Zh]
 try simp only [Zm]
 try simp only [Zn]
 try simp only [Zf]
 try simp only [Int.toNat_natCast, Nat.zero_add, true_and, and_true, Nat.le_refl]
 subst hl hh
 unfold loH hiH
 refine ⟨ha, hb, fun h => ?_, fun h => ?_⟩
 ·rw [if_pos h, if_pos h]
 ·rw [if_neg h, if_neg h]
def Zhz : ZW := fun args _ K => match args with
 | [.agg [.arr .u8 32 a], .agg [.arr .u8 32 b]] => (a.length = 32 ∧ b.length = 32) ∧ K (.tuple [.agg [.arr .u8 32 (loH a b)], .agg [.arr .u8 32 (hiH a b)]])
 | _ => False
theorem Zfi (args : List AV) (h : Z7) (K : AV → Prop) (hl : Zhz args h K) : Zk PP 50 args h fun o h' => ∃ v, o = .ret v ∧ h' = h ∧ K v := by
 unfold Zhz at hl
 split at hl
 ·obtain ⟨⟨h1, h2⟩, hK⟩ := hl
  exact XL Zu rfl (Zjo _ _ _ _ h1 h2 rfl rfl) (fun u hu => hu ▸ hK)
 ·exact hl.elim
theorem Zfj {a b : List Int} (ha : a.length = 32) (hb : b.length = 32) : (loH a b).length = 32 := by unfold loH; split <;> assumption
theorem Zfk {a b : List Int} (ha : a.length = 32) (hb : b.length = 32) : (hiH a b).length = 32 := by unfold hiH; split <;> assumption
theorem Zjp (m : Nat) (g : Nat → InS) (hm : m < 1000) :
  evF G0 20 48 [.vrows 130 (m + 1) (Zb g) (m + 1)] ⟨0, []⟩ (Yc 0 (.ret (.nslice ⟨0, 0, 130, 0, 0⟩ 130 (m + 1) (m + 1))) 1 [(0, .rows 130 (m + 1) (Zb g))]) := by
 refine @Eq.mpr _ (let q1 := m + 1;
 let q2 := 0 + q1;
 let q3 := decide (q2 = q1);
 Z0 (decide (q2 * 144 ≤ 140737488355328)) (Z0 q3 (Z0 (decide (q1 ≤ q2)) (Z0 q3 (Zc 0 [(0, 0)] q1 (Zb g) (Yf 0 (fun (x : Nat) => []) (Zb g)) ∧ True) False) False) False) False) (by kernel_rfl) ?_
 conv => zeta
 try simp only [Zg]
 try simp only [Zl]
 try simp only [Zh]
 try simp only [Zm]
 try simp only [Zn]
 try simp only [Zf]
 try simp only [Int.toNat_natCast, Nat.zero_add, true_and, and_true, Nat.le_refl]
 exact ⟨by omega, Yd fun i _ => by rw [XW (Nat.zero_le _)]; rfl⟩
theorem Zjq (g : Nat → InS)  :
  evF G0 20 48 [.nilslice] ⟨0, []⟩ (Yc 0 (.ret (.nslice ⟨0, 0, 130, 0, 0⟩ 130 0 0)) 1 [(0, .rows 130 0 (Zb g))]) := by
 refine @Eq.mpr _ (True) (by kernel_rfl) ?_
 trivial
theorem Zjr (g : Nat → InS)  :
  evF G0 20 48 [.fslice] ⟨0, []⟩ (Yc 0 (.ret (.nslice ⟨0, 0, 130, 0, 0⟩ 130 0 0)) 1 [(0, .rows 130 0 (Zb g))]) := by
 refine @Eq.mpr _ (Zc 0 [(0, 0)] 0 (Zb g) (Yf 0 (fun (x : Nat) => []) fun (x : Nat) => []) ∧ True) (by kernel_rfl) ?_
 try simp only [Zg]
 try simp only [Zl]
 try simp only [Zh]
 try simp only [Zm]
 try simp only [Zn]
 try simp only [Zf]
 try simp only [Int.toNat_natCast, Nat.zero_add, true_and, and_true, Nat.le_refl]
 exact Yd fun i hi => absurd hi (Nat.not_lt_zero i)
theorem ZcV (n : Nat) (g : Nat → InS) (hn : n < 1000) : ZB PP 48 [.vrows 130 n (Zb g) n] (.nslice ⟨0, 0, 130, 0, 0⟩ 130 n n) 1 [(0, .rows 130 n (Zb g))] := by
 match n, hn with
 | 0, _ => exact ZB.vrows0 (.evM Zu (Zjq g)) (.evM Zu (Zjr g))
 | m + 1, h => exact .evM Zu (Zjp m g (by omega))
def ZhA : Y9 := fun args h K => ZH none h true 20 args fun a => match a with
 | [v] => ∃ N g, Z3B v N g ∧ N < 1000 ∧ K (.ret (.nslice ⟨h.next, 0, 130, 0, 0⟩ 130 N N)) ⟨h.next + 1, (h.next, .rows 130 N (Zb g)) :: h.bs⟩
 | _ => False
theorem Zfl (args : List AV) (h : Z7) (K : KO) (hl : ZhA args h K) : Zk PP 48 args h K := by
 refine ZB.fsumm (d := 20) (Zq _ _ _ _ _ hl fun a ha => ?_)
 split at ha
 ·obtain ⟨N, g, h1, h2, hK⟩ := ha
  exact ⟨_, _, _, _, (ZcV N g h2).conv fun E r hr => hr.head (fun _ hc => h1.rel hc) (fun _ hc => hc), rfl, ⟨by decide, .rows _ _ _ (fun i _ => (g i).plainC), trivial⟩, hK⟩
 ·exact ha.elim
theorem Zjs (m : Nat) (g : Nat → Zs) (hm : m < 1000) :
  evF G0 20 49 [.vrows 132 (m + 1) (Z8 g) (m + 1)] ⟨0, []⟩ (Yc 0 (.ret (.nslice ⟨0, 0, 132, 0, 0⟩ 132 (m + 1) (m + 1))) 1 [(0, .rows 132 (m + 1) (Z8 g))]) := by
 refine @Eq.mpr _ (let q1 := m + 1;
 let q2 := 0 + q1;
 let q3 := decide (q2 = q1);
 Z0 (decide (q2 * 160 ≤ 140737488355328)) (Z0 q3 (Z0 (decide (q1 ≤ q2)) (Z0 q3 (Zc 0 [(0, 0)] q1 (Z8 g) (Yf 0 (fun (x : Nat) => []) (Z8 g)) ∧ True) False) False) False) False) (by kernel_rfl) ?_
 conv => zeta
 try simp only [Zg]
 try simp only [Zl]
 try simp only [Zh]
 try simp only [Zm]
 try simp only [Zn]
 try simp only [Zf]
 try simp only [Int.toNat_natCast, Nat.zero_add, true_and, and_true, Nat.le_refl]
 exact ⟨by omega, Y7 fun i _ => by rw [XW (Nat.zero_le _)]; rfl⟩
theorem Zjt (g : Nat → Zs)  :
  evF G0 20 49 [.nilslice] ⟨0, []⟩ (Yc 0 (.ret (.nslice ⟨0, 0, 132, 0, 0⟩ 132 0 0)) 1 [(0, .rows 132 0 (Z8 g))]) := by
 refine @Eq.mpr _ (True) (by kernel_rfl) ?_
 trivial
theorem Zju (g : Nat → Zs)  :
  evF G0 20 49 [.fslice] ⟨0, []⟩ (Yc 0 (.ret (.nslice ⟨0, 0, 132, 0, 0⟩ 132 0 0)) 1 [(0, .rows 132 0 (Z8 g))]) := by
 refine @Eq.mpr _ (Zc 0 [(0, 0)] 0 (Z8 g) (Yf 0 (fun (x : Nat) => []) fun (x : Nat) => []) ∧ True) (by kernel_rfl) ?_
 try simp only [Zg]
 try simp only [Zl]
 try simp only [Zh]
 try simp only [Zm]
 try simp only [Zn]
 try simp only [Zf]
 try simp only [Int.toNat_natCast, Nat.zero_add, true_and, and_true, Nat.le_refl]
 exact Y7 fun i hi => absurd hi (Nat.not_lt_zero i)
theorem ZcW (n : Nat) (g : Nat → Zs) (hn : n < 1000) : ZB PP 49 [.vrows 132 n (Z8 g) n] (.nslice ⟨0, 0, 132, 0, 0⟩ 132 n n) 1 [(0, .rows 132 n (Z8 g))] := by
 match n, hn with
 | 0, _ => exact ZB.vrows0 (.evM Zu (Zjt g)) (.evM Zu (Zju g))
 | m + 1, h => exact .evM Zu (Zjs m g (by omega))
def ZhB : Y9 := fun args h K => ZH none h true 20 args fun a => match a with
 | [v] => ∃ N g, Ql v N g ∧ N < 1000 ∧ K (.ret (.nslice ⟨h.next, 0, 132, 0, 0⟩ 132 N N)) ⟨h.next + 1, (h.next, .rows 132 N (Z8 g)) :: h.bs⟩
 | _ => False
theorem Zfm (args : List AV) (h : Z7) (K : KO) (hl : ZhB args h K) : Zk PP 49 args h K := by
 refine ZB.fsumm (d := 20) (Zq _ _ _ _ _ hl fun a ha => ?_)
 split at ha
 ·obtain ⟨N, g, h1, h2, hK⟩ := ha
  exact ⟨_, _, _, _, (ZcW N g h2).conv fun E r hr => hr.head (fun _ hc => h1.rel hc) (fun _ hc => hc), rfl, ⟨by decide, .rows _ _ _ (fun i _ => (g i).plainC), trivial⟩, hK⟩
 ·exact ha.elim
end Go.Tk
end
section
namespace Go.Tk
open IntKind (i64 u8 u32 u64 wrap)
structure ClS where
 index : Int
 way : Int
 secret : List Int
def ClS.c (x : ClS) : List AV := [.int .i64 x.index, .int .i64 x.way, .arr .u8 32 x.secret]
structure ClS.Ok (x : ClS) : Prop where
 secret : x.secret.length = 32
def cl0 : ClS := ⟨0, 0, []⟩
def ltC (a b : ClS) : Bool := decide (a.index < b.index)
def ZaJ (a b : ClS) : Int := if VJ a.index b.index ≠ 0 then VJ a.index b.index else 0
theorem Zfn {a b : ClS} (_ : a.Ok) (_ : b.Ok) : decide (ZaJ a b < 0) = ltC a b := by
 unfold ZaJ ltC
 have h1 := Wt a.index b.index
 rw [decide_eq_decide]
 generalize VJ a.index b.index = c1 at *
 split <;> omega
theorem Z8i : WO ltC where
 asym x y h := by
  unfold ltC at *
  simp only [decide_eq_true_eq, decide_eq_false_iff_not] at *
  omega
 neg x y z h h2 := by
  unfold ltC at *
  simp only [decide_eq_true_eq, decide_eq_false_iff_not] at *
  omega
def Z4t (l : List ClS) : List ClS := Yx ltC [] l
def ZE (l : List ClS) (i : Nat) : List AV := (l.getD i cl0).c
def byC : List AV := [.func (.func 68) [] []]
theorem ZhC (a b : ClS) (r : Int) (ha : a.Ok) (hb : b.Ok) (hr : r = ZaJ a b) :
  evF G0 20 124 [.agg a.c, .agg b.c, .pview [.vrows 1 1 (ZO byC 0 1) 1] 0] ⟨0, []⟩ (Yc 0 (.ret (.int .i64 r)) 0 []) := by
 refine @Eq.mpr _ (let q1 := a.index;
 let q2 := b.index;
 let q3 := q2 != q2;
 let q4 := Z0 (decide (0 = r)) True False;
 let q5 := Z0 (decide (-1 = r)) True False;
 let q6 := Z0 (decide (1 = r)) True False;
 Z0 (q1 != q1) (Z0 q3 q4 q5) (Z0 q3 q6 (Z0 (decide (q1 < q2)) q5 (Z0 (decide (q1 > q2)) q6 q4)))) (by kernel_rfl) ?_
 conv => zeta
 unfold ZaJ at hr
 exact Z6J hr fun hr => by rw [hr]; trivial
def Zg6 : ZW := fun args h K => ZH none h true 20 args fun a => match a with
 | [.agg ca, .agg cb, .pview [.vrows 1 1 f 1] 0] => ∃ a b, ca = ClS.c a ∧ cb = ClS.c b ∧ f = ZO byC 0 1 ∧ (a.Ok ∧ b.Ok) ∧ K (.int .i64 (ZaJ a b))
 | _ => False
theorem ZcX (args : List AV) (h : Z7) (K : AV → Prop) (hl : Zg6 args h K) : Zk PP 124 args h fun o h' => ∃ v, o = .ret v ∧ h' = h ∧ K v := by
 refine ZB.psumm (d := 20) (Zq _ _ _ _ _ hl fun a ha => ?_)
 split at ha
 ·obtain ⟨a, b, rfl, rfl, rfl, ⟨h1, h2⟩, hK⟩ := ha
  exact ⟨_, .evM Zu (ZhC a b _ h1 h2 rfl), fun _ => rfl, hK⟩
 ·exact ha.elim
end Go.Tk
end
section
namespace Go.Tk
open IntKind (i64 u8 u32 u64 wrap)
noncomputable def ZhD : Zd := G0.withP 124 Zg6
theorem Z9m : ZhD.Ok := Zd.withP_ok Zu ZcX
def Z9n : AV := .func (.func 124) [] [.pview [.vrows 1 1 (ZO byC 0 1) 1] 0]
def Z0q (n : Nat) (L : List ClS) : Z7 := ⟨1, [(0, .rows 34 n (ZE L))]⟩
def Zjv (n lo : Nat) (A B : Int) (l : ZY) : ZY := l ++ [(2, .int .i64 B), (1, .int .i64 A), (3, Z9n), (0, .nslice ⟨0, 0, 34, 0, 0⟩ 34 n lo)]
def Qo (n lo : Nat) (A B I : Int) (L : List ClS) : St := ⟨53, Zjv n lo A B [(8, .int .i64 I)], Z0q n L, []⟩
def Z9o (n lo : Nat) (A B I J : Int) (L : List ClS) : St := ⟨53, Zjv n lo A B [(9, .int .i64 J), (8, .int .i64 I)], Z0q n L, []⟩
theorem W5 (L : List ClS) (i : Nat) : plainC (ZE L i) = true := rfl
theorem Ye {k : Nat} {τ : Ren} {n : Nat} {L : List ClS} {f : Nat → List AV} (h : ∀ i, i < n → f i = ZE L i) : Zc k τ n (ZE L) f :=
 VB h (fun i _ => W5 L i) (fun i _ v hv => by
  simp only [ZE, ClS.c, List.mem_cons, List.not_mem_nil, or_false] at hv
  rcases hv with rfl | rfl | rfl <;> first | exact .inl rfl | exact .inr ⟨_, _, _, rfl⟩)
theorem Zg7 {L : List ClS} (h : ∀ m ∈ L, m.Ok) {i : Nat} (hi : i < L.length) : (L.getD i cl0).Ok := by
 rw [List.getD_eq_getElem?_getD, List.getElem?_eq_getElem hi]
 exact h _ (List.getElem_mem hi)
theorem ZaK {f : Nat → List AV} {J J1 i : Nat} {x y : List AV} (hx : x = f J) (hy : y = f J1) : VP (VP f J y) J1 x i = if i = J1 then f J else if i = J then f J1 else f i := by
 rw [XG, XG]
 by_cases h1 : i = J1
 ·subst h1; rw [Nat.beq_refl, if_pos rfl, hx]
 ·rw [Zv h1, if_neg h1]
  by_cases h2 : i = J
  ·subst h2; rw [Nat.beq_refl, if_pos rfl, hy]
  ·rw [Zv h2, if_neg h2]
theorem Zjw (n lo A B I J : Nat) (L L1 : List ClS) (Z1 Z2 : Prop) (hn : n < 900000000000) (hJ : J < n) (hL : L.length = n) (hok : ∀ m ∈ L, m.Ok) (hsw : A < J → ∀ i, i < n → ZE L1 i = if i = J - 1 then ZE L J else if i = J then ZE L (J - 1) else ZE L i) (h1 : A < J → ltC (L.getD J cl0) (L.getD (J - 1) cl0) = true → Z1) (h2 : J ≤ A ∨ ltC (L.getD J cl0) (L.getD (J - 1) cl0) = false → Z2) :
  ZF ZhD 20 195 2 1 (Z9o n lo A B I J L) (rdM 1 2 9 (Z9o n lo A B I ((J - 1 : Nat) : Int) L1) (Qo n lo A B I L) (Qo n lo A B I L) (Qo n lo A B I L) Z1 Z2 False False) := by
 refine @Eq.mpr _ (let q1 := decide (0 ≤ (↑J : Int) ∧ (↑J : Int) < (↑n : Int));
 let q2 := 0 + Int.toNat (↑J : Int);
 let q3 := wrap i64 ((↑J : Int) - 1);
 let q4 := decide (0 ≤ q3 ∧ q3 < (↑n : Int));
 let q5 := 0 + Int.toNat q3;
 let q6 := List.getD L q2 cl0;
 let q7 := [AV.int i64 q6.index, AV.int i64 q6.way, AV.arr u8 32 q6.secret];
 let q8 := List.getD L q5 cl0;
 let q9 := [AV.int i64 q8.index, AV.int i64 q8.way, AV.arr u8 32 q8.secret];
 let q10 := ZO byC 0 1;
 let q11 := decide ((↑I : Int) = (↑I : Int));
 let q12 := decide ((↑B : Int) = (↑B : Int));
 let q13 := decide ((↑A : Int) = (↑A : Int));
 let q14 := [AV.vrows 1 1 q10 1];
 let q15 := q14 = q14;
 let q16 := decide (n = n);
 let q17 := decide (lo ≤ lo);
 let q18 := ZE L;
 let q19 := Z0 q11 (Z0 q12 (Z0 q13 (q15 ∧ Z0 q16 (Z0 q17 (Z0 q16 (Zc 1 [] n q18 q18 ∧ Z2) False) False) False) False) False) False;
 Z0 (decide ((↑J : Int) > (↑A : Int))) (Z0 q1 (Z0 (decide (q2 < n)) (Z0 q4 (Z0 (decide (q5 < n)) (∃ (a : ClS), ∃ (b : ClS), q7 = ClS.c a ∧ q9 = ClS.c b ∧ q10 = q10 ∧ (ClS.Ok a ∧ ClS.Ok b) ∧ Z0 (decide (ZaJ a b < 0)) (Z0 q4 (Z0 (decide (q5 < n)) (Z0 q1 (Z0 (decide (q2 < n)) (Z0 q1 (Z0 (decide (q2 < n)) (Z0 q4 (Z0 (decide (q5 < n)) (Z0 (decide (q3 = (↑(J - 1) : Int))) (Z0 q11 (Z0 q12 (Z0 q13 (q15 ∧ Z0 q16 (Z0 q17 (Z0 q16 (Zc 1 [] n (ZE L1) (VP (VP q18 q2 q9) q5 q7) ∧ Z1) False) False) False) False) False) False) False) False) False) False) False) False) False) False) False) q19) False) False) False) False) q19) (by kernel_rfl) ?_
 conv => zeta
 try simp only [Zg]
 try simp only [Zl]
 try simp only [Zh]
 try simp only [Zm]
 try simp only [Zn]
 try simp only [Zf]
 try simp only [Int.toNat_natCast, Nat.zero_add, true_and, and_true, Nat.le_refl]
 refine ⟨fun hc => ?_, fun hc => ⟨Ye fun _ _ => rfl, h2 (.inl (by omega))⟩⟩
 have key : i64.wrap ((J : Int) - 1) = ((J - 1 : Nat) : Int) := by rw [w64 (by omega)]; omega
 rw [key]
 simp only [Int.toNat_natCast]
 have o1 : (L.getD J cl0).Ok := Zg7 hok (by omega)
 have o2 : (L.getD (J - 1) cl0).Ok := Zg7 hok (by omega)
 have hlt := Zfn o1 o2
 refine ⟨by omega, by omega, by omega, by omega, L.getD J cl0, L.getD (J - 1) cl0, rfl, rfl, ⟨o1, o2⟩, fun hm => ?_, fun hm => ⟨Ye fun _ _ => rfl, h2 (.inr (by rw [← hlt]; simpa using hm))⟩⟩
 refine ⟨by omega, by omega, by omega, by omega, by omega, by omega, by omega, by omega, trivial, Ye fun i hi => ?_, h1 (by omega) (by rw [← hlt]; simpa using hm)⟩
 rw [hsw (by omega) i hi]
 exact ZaK rfl rfl
def WM (a p : List ClS) (x : ClS) (r : List ClS) (m : Nat) : List ClS := a ++ (p.take (p.length - m) ++ x :: (p.drop (p.length - m) ++ r))
theorem ZcY {a p r : List ClS} {x : ClS} {m : Nat} : (WM a p x r m).length = a.length + p.length + 1 + r.length := by
 unfold WM
 simp only [List.length_append, List.length_cons, List.length_take, List.length_drop]
 omega
theorem Z6K {a p r : List ClS} {x : ClS} {m : Nat} {z : ClS} : z ∈ WM a p x r m ↔ z ∈ a ∨ z ∈ p ∨ z = x ∨ z ∈ r := by
 unfold WM
 have e : z ∈ p ↔ z ∈ p.take (p.length - m) ∨ z ∈ p.drop (p.length - m) := by
  rw [← List.mem_append, List.take_append_drop]
 rw [e]
 simp only [List.mem_append, List.mem_cons]
 constructor
 ·rintro (h | h | h | h | h) <;> simp [h]
 ·rintro (h | (h | h) | h | h) <;> simp [h]
theorem Z8j {a p r : List ClS} {x : ClS} {m : Nat} (hm : m ≤ p.length) : (WM a p x r m).getD (a.length + p.length - m) cl0 = x := by
 unfold WM
 rw [List.getD_eq_getElem?_getD, List.getElem?_append_right (by omega), List.getElem?_append_right (by rw [List.length_take]; omega)]
 have : a.length + p.length - m - a.length - (p.take (p.length - m)).length = 0 := by rw [List.length_take]; omega
 rw [this]; rfl
theorem Z8k {a p r : List ClS} {x : ClS} {m : Nat} (hm : m < p.length) : (WM a p x r m).getD (a.length + p.length - m - 1) cl0 = p.getD (p.length - m - 1) cl0 := by
 unfold WM
 rw [List.getD_eq_getElem?_getD, List.getElem?_append_right (by omega), List.getElem?_append_left (by rw [List.length_take]; omega), List.getElem?_take, if_pos (by omega), ← List.getD_eq_getElem?_getD]
 congr 1
 omega
theorem ZaL {a p r : List ClS} {x : ClS} {m : Nat} (hm : m < p.length) (i : Nat) : ZE (WM a p x r (m + 1)) i = if i = a.length + p.length - m - 1 then ZE (WM a p x r m) (a.length + p.length - m) else if i = a.length + p.length - m then ZE (WM a p x r m) (a.length + p.length - m - 1) else ZE (WM a p x r m) i := by
 unfold ZE
 rw [Z8j (by omega), Z8k hm]
 have hx := Z8j (a := a) (p := p) (r := r) (x := x) (m := m + 1) (by omega)
 by_cases h1 : i = a.length + p.length - m - 1
 ·rw [if_pos h1, h1, show a.length + p.length - m - 1 = a.length + p.length - (m + 1) by omega, hx]
 ·rw [if_neg h1]
  have e : p.length - m = (p.length - (m + 1)) + 1 := by omega
  have hd : p.drop (p.length - (m + 1)) = p.getD (p.length - m - 1) cl0 :: p.drop (p.length - m) := by
   rw [List.drop_eq_getElem_cons (by omega), show p.length - (m + 1) + 1 = p.length - m by omega]
   congr 1
   rw [List.getD_eq_getElem?_getD, List.getElem?_eq_getElem (by omega)]
   simp only [Option.getD_some]
   congr 1
  have ht : p.take (p.length - m) = p.take (p.length - (m + 1)) ++ [p.getD (p.length - m - 1) cl0] := by
   rw [e, List.take_succ_eq_append_getElem (by omega)]
   congr 2
   rw [List.getD_eq_getElem?_getD, List.getElem?_eq_getElem (by omega)]
   simp only [Option.getD_some]
   congr 1
  have l1 : (p.take (p.length - (m + 1))).length = p.length - (m + 1) := by rw [List.length_take]; omega
  generalize p.getD (p.length - m - 1) cl0 = y at *
  have hm1 : WM a p x r (m + 1) = (a ++ p.take (p.length - (m + 1))) ++ (x :: y :: (p.drop (p.length - m) ++ r)) := by
   unfold WM; rw [hd]; simp
  have hm0 : WM a p x r m = (a ++ p.take (p.length - (m + 1))) ++ (y :: x :: (p.drop (p.length - m) ++ r)) := by
   unfold WM; rw [ht]; simp
  rw [hm1, hm0]
  have l2 : (a ++ p.take (p.length - (m + 1))).length = a.length + p.length - m - 1 := by rw [List.length_append, l1]; omega
  generalize a ++ p.take (p.length - (m + 1)) = U at *
  generalize p.drop (p.length - m) ++ r = V at *
  by_cases h2 : i = a.length + p.length - m
  ·rw [if_pos h2, List.getD_eq_getElem?_getD, List.getElem?_append_right (by omega), show i - U.length = 1 by omega]
   rfl
  ·rw [if_neg h2]
   rcases Nat.lt_or_ge i U.length with h3 | h3
   ·rw [List.getD_eq_getElem?_getD, List.getD_eq_getElem?_getD, List.getElem?_append_left h3, List.getElem?_append_left h3]
   ·rw [List.getD_eq_getElem?_getD, List.getD_eq_getElem?_getD, List.getElem?_append_right h3, List.getElem?_append_right h3]
    obtain ⟨q, hq⟩ : ∃ q, i - U.length = q + 2 := ⟨i - U.length - 2, by omega⟩
    rw [hq]; rfl
def Zg8 (p : List ClS) (x : ClS) (m : Nat) : Prop := m < p.length ∧ ltC x (p.getD (p.length - m - 1) cl0) = true
def Zg9 (p : List ClS) (x : ClS) (m : Nat) : Prop := m = p.length ∨ (m < p.length ∧ ltC x (p.getD (p.length - m - 1) cl0) = false)
theorem ZcZ {a p r : List ClS} {x : ClS} {m : Nat} (ho : Wm ltC p) (hm : m ≤ p.length) (hgo : ∀ j, j < m → Zg8 p x j) (hex : Zg9 p x m) : WM a p x r m = a ++ (VI ltC x p ++ r) := by
 have h := Z5o Z8i (x := x) (l := p) (j := p.length - m) ho (by omega) (fun y hy => ?_) (fun y hy hj => ?_)
 ·unfold WM
  rw [← h]; simp
 ·obtain ⟨q, hq⟩ := List.mem_iff_getElem?.1 hy
  rw [List.getElem?_drop] at hq
  obtain ⟨hlt, he⟩ := List.getElem?_eq_some_iff.1 hq
  have := (hgo (p.length - 1 - (p.length - m + q)) (by omega)).2
  rw [List.getD_eq_getElem?_getD, show p.length - (p.length - 1 - (p.length - m + q)) - 1 = p.length - m + q by omega, hq] at this
  exact this
 ·rcases hex with hex | ⟨_, hex⟩
  ·omega
  ·rw [List.getD_eq_getElem?_getD, hy] at hex
   exact hex
structure IcQ where
 a : List ClS
 p : List ClS
 x : ClS
 r : List ClS
def IcQ.n (q : IcQ) : Nat := q.a.length + q.p.length + 1 + q.r.length
def IcQ.I (q : IcQ) : Nat := q.a.length + q.p.length
def IcQ.L (q : IcQ) (m : Nat) : List ClS := WM q.a q.p q.x q.r m
structure IcQ.Ok (q : IcQ) (n : Nat) (A : Nat) : Prop where
 hn : q.n = n
 hA : q.a.length = A
 le : n < 900000000000
 ok : ∀ m ∈ q.L 0, m.Ok
def IcQ.go (q : IcQ) : Nat → Prop := Zg8 q.p q.x
def IcQ.ex (q : IcQ) : Nat → Prop := Zg9 q.p q.x
def IcQ.len (q : IcQ) : Nat := q.p.length
noncomputable def Zd0 (n lo A B : Nat) : Zd := ZhD.withL 195 2 (Zcr fun q : IcQ => goM 1 (Z9o n lo A B q.I q.I (q.L 0)) (q.Ok n A) (Ym 2 q.len 9 q.go q.ex (fun _ => False) (fun _ => False) (fun m => Qo n lo A B q.I (q.L m)) (fun m => Qo n lo A B q.I (q.L m)) (fun m => Qo n lo A B q.I (q.L m))))
theorem Zd1 (n lo A B : Nat) : (Zd0 n lo A B).Ok :=
 Zd.withL_ex Z9m fun q => Zd.withGoM (N := 20) (S := fun m => Z9o n lo A B q.I ((q.I - m : Nat) : Int) (q.L m)) Z9m (by kernel_rfl) fun hC => ⟨by simp, fun m hm hgo => by
  obtain ⟨h1, h2, h3, h4⟩ := hC
  have l1 : (q.L m).length = n := by rw [← h1]; exact ZcY
  have hI : q.I = q.a.length + q.p.length := rfl
  have hm' : m ≤ q.p.length := hm
  have hnn : q.n = q.a.length + q.p.length + 1 + q.r.length := rfl
  have hx : (q.L m).getD (q.I - m) cl0 = q.x := Z8j hm'
  have hok : ∀ z ∈ q.L m, z.Ok := fun z hz => h4 z (Z6K.2 (Z6K.1 hz))
  have := Zjw n lo A B q.I (q.I - m) (q.L m) (q.L (m + 1)) (q.go m ∧ m < q.len) (q.ex m) h3 (by omega) l1 hok (fun hlt i hi => ?_) (fun hlt hc => ?_) (fun hc => ?_)
  ·rw [show q.I - (m + 1) = q.I - m - 1 by omega]
   exact this
  ·have hmp : m < q.p.length := by omega
   exact ZaL hmp i
  ·have hmp : m < q.p.length := by omega
   rw [hx, show (q.L m).getD (q.I - m - 1) cl0 = _ from Z8k hmp] at hc
   exact ⟨⟨hmp, hc⟩, hmp⟩
  ·rcases Nat.lt_or_ge m q.p.length with hmp | hmp
   ·rcases hc with hc | hc
    ·omega
    ·rw [hx, show (q.L m).getD (q.I - m - 1) cl0 = _ from Z8k hmp] at hc
     exact .inr ⟨hmp, hc⟩
   ·exact .inl (show m = q.p.length by omega)⟩
theorem Zjx (n lo A B I : Nat) (L L1 : List ClS) (q : IcQ) (Z1 Z2 : Prop) (hn : n < 900000000000) (hI : I < 900000000001) (hq : I < B → q.I = I ∧ q.L 0 = L ∧ q.Ok n A) (hnext : I < B → ∀ m, m ≤ q.len → (∀ j, j < m → q.go j) → q.ex m → L1 = q.L m ∧ Z1) (h2 : ¬ I < B → Z2) :
  ZF (Zd0 n lo A B) 20 195 0 1 (Qo n lo A B I L) (rdM 1 0 9 (Qo n lo A B ((I + 1 : Nat) : Int) L1) ⟨53, [], Z0q n L, []⟩ ⟨53, [], Z0q n L, []⟩ ⟨53, [], Z0q n L, []⟩ Z1 Z2 False False) := by
 refine @Eq.mpr _ (let q1 := decide ((↑B : Int) = (↑B : Int));
 let q2 := decide ((↑A : Int) = (↑A : Int));
 let q3 := [AV.vrows 1 1 (ZO byC 0 1) 1];
 let q4 := q3 = q3;
 let q5 := decide (n = n);
 let q6 := decide (lo ≤ lo);
 let q7 := ZE L;
 Z0 (decide ((↑I : Int) < (↑B : Int)))
 (∃ (i : IcQ),
 let q15 := (↑(IcQ.I i) : Int);
 let q16 := decide ((↑I : Int) = q15);
 Z0 q16
 (Z0 q16
 (Z0 q1
 (Z0 q2
 (q4 ∧
 Z0 q5
 (Z0 q6
 (Z0 q5
 (Zc 1 [] n (ZE (IcQ.L i 0)) q7 ∧
 IcQ.Ok i n A ∧
 ∀ (i_1 : Nat),
 let q19 := ZE (IcQ.L i i_1);
 i_1 ≤ IcQ.len i → (∀ (j : Nat), j < i_1 → IcQ.go i j) → (IcQ.ex i i_1 → Z0 (decide (wrap i64 (q15 + 1) = (↑(I + 1) : Int))) (Z0 q1 (Z0 q2 (q4 ∧ Z0 q5 (Z0 q6 (Z0 q5 (Zc 1 [] n (ZE L1) q19 ∧ Z1) False) False) False) False) False) False) ∧ (False → Z0 q5 (Zc 1 [] n q7 q19 ∧ False) False) ∧ (False → Z0 q5 (Zc 1 [] n q7 q19 ∧ False) False))
 False)
 False)
 False)
 False)
 False)
 False)
 False)
 (Z0 q5 (Zc 1 [] n q7 q7 ∧ Z2) False)) (by kernel_rfl) ?_
 conv => zeta
 try simp only [Zg]
 try simp only [Zl]
 try simp only [Zh]
 try simp only [Zm]
 try simp only [Zn]
 try simp only [Zf]
 try simp only [Int.toNat_natCast, Nat.zero_add, true_and, and_true, Nat.le_refl]
 refine ⟨fun hc => ?_, fun hc => ⟨Ye fun _ _ => rfl, h2 (by omega)⟩⟩
 obtain ⟨e1, e2, e3⟩ := hq (by omega)
 refine ⟨q, by omega, by omega, Ye (fun _ _ => by rw [e2]), e3, fun m hm hgo => ⟨fun hex => ?_, fun h => h.elim, fun h => h.elim⟩⟩
 obtain ⟨e4, hZ⟩ := hnext (by omega) m hm hgo hex
 exact ⟨by rw [w64 (by omega)]; omega, Ye (fun _ _ => by rw [e4]), hZ⟩
structure IcP where
 a : List ClS
 M : List ClS
 c : List ClS
def IcP.L (q : IcP) (t : Nat) : List ClS := q.a ++ (Yx ltC [] (q.M.take (t + 1)) ++ (q.M.drop (t + 1) ++ q.c))
def IcP.N (q : IcP) : Nat := q.M.length - 1
def IcP.all (q : IcP) : List ClS := q.a ++ (q.M ++ q.c)
def IcP.done (q : IcP) : List ClS := q.a ++ (Z4t q.M ++ q.c)
structure IcP.Ok (q : IcP) (n A B : Nat) : Prop where
 hn : q.a.length + q.M.length + q.c.length = n
 hA : q.a.length = A
 hB : q.a.length + q.M.length = B
 le : n < 900000000000
 ok : ∀ m ∈ q.all, m.Ok
theorem IcP.L0 (q : IcP) : q.L 0 = q.all := by
 unfold IcP.L IcP.all
 cases h : q.M with
 | nil => rfl
 | cons x r => rfl
theorem IcP.LN (q : IcP) : q.L q.N = q.done := by
 unfold IcP.L IcP.done IcP.N
 rw [List.take_of_length_le (by omega), List.drop_of_length_le (by omega)]; rfl
theorem Z8l {l acc : List ClS} {z : ClS} : z ∈ Yx ltC acc l ↔ z ∈ acc ∨ z ∈ l := by
 rw [(YZ (lt := ltC)).mem_iff, List.mem_append]
noncomputable def Zga (q : IcP) (n lo A B : Nat) : Zd := (Zd0 n lo A B).withL 195 0 (goM 1 (Qo n lo A B ((A + 1 : Nat) : Int) (q.L 0)) (q.Ok n A B) (Ym 0 q.N 9 (fun t => t < q.N) (fun t => t = q.N) (fun _ => False) (fun _ => False) (fun t => ⟨53, [], Z0q n (q.L t), []⟩) (fun t => ⟨53, [], Z0q n (q.L t), []⟩) (fun t => ⟨53, [], Z0q n (q.L t), []⟩)))
theorem Zd2 (q : IcP) (n lo A B : Nat) : (Zga q n lo A B).Ok :=
 Zd.withGoM (N := 20) (S := fun t => Qo n lo A B ((A + 1 + t : Nat) : Int) (q.L t)) (Zd1 n lo A B) (by kernel_rfl) fun hC => ⟨rfl, fun t ht hgo => by
  obtain ⟨h1, h2, h3, h4, h5⟩ := hC
  have hN : q.N = q.M.length - 1 := rfl
  have hMl : q.M.length ≤ n := by omega
  have := Zjx n lo A B (A + 1 + t) (q.L t) (q.L (t + 1)) ⟨q.a, Yx ltC [] (q.M.take (t + 1)), q.M.getD (t + 1) cl0, q.M.drop (t + 2) ++ q.c⟩ (t < q.N ∧ t < q.N) (t = q.N) h4 (by omega) (fun hlt => ?_) (fun hlt m hm hg he => ?_) (fun hc => by omega)
  ·rw [show A + 1 + (t + 1) = A + 1 + t + 1 by omega]; exact this
  ·have hl : (Yx ltC [] (q.M.take (t + 1))).length = t + 1 := by rw [Z14, List.length_take]; simp; omega
   have e0 : q.L t = WM q.a (Yx ltC [] (q.M.take (t + 1))) (q.M.getD (t + 1) cl0) (q.M.drop (t + 2) ++ q.c) 0 := by
    unfold WM IcP.L
    rw [Nat.sub_zero, List.take_length, List.drop_length, List.drop_eq_getElem_cons (show t + 1 < q.M.length by omega), List.getD_eq_getElem?_getD, List.getElem?_eq_getElem (show t + 1 < q.M.length by omega)]
    rfl
   refine ⟨?_, e0.symm, ?_, h2, h4, fun z hz => ?_⟩
   ·show q.a.length + (Yx ltC [] (q.M.take (t + 1))).length = _
    rw [hl, h2]; omega
   ·show q.a.length + (Yx ltC [] (q.M.take (t + 1))).length + 1 + (q.M.drop (t + 2) ++ q.c).length = n
    rw [hl, List.length_append, List.length_drop]; omega
   ·have hz : z ∈ WM q.a (Yx ltC [] (q.M.take (t + 1))) (q.M.getD (t + 1) cl0) (q.M.drop (t + 2) ++ q.c) 0 := hz
    refine h5 z ?_
    rw [← e0] at hz
    unfold IcP.L at hz
    unfold IcP.all
    rw [List.mem_append, List.mem_append, Z8l, List.mem_append] at hz
    rw [List.mem_append, List.mem_append]
    rcases hz with hz | (hz | hz) | hz | hz
    ·exact .inl hz
    ·simp at hz
    ·exact .inr (.inl (List.mem_of_mem_take hz))
    ·exact .inr (.inl (List.mem_of_mem_drop hz))
    ·exact .inr (.inr hz)
  ·refine ⟨?_, by omega⟩
   have := ZcZ (a := q.a) (r := q.M.drop (t + 2) ++ q.c) (x := q.M.getD (t + 1) cl0) (m := m) (Ws Z8i (l := q.M.take (t + 1)) (acc := []) .nil) hm hg he
   show _ = WM q.a _ _ _ m
   rw [this]
   unfold IcP.L
   have e2 : q.M.take (t + 1 + 1) = q.M.take (t + 1) ++ [q.M.getD (t + 1) cl0] := by
    rw [List.take_succ_eq_append_getElem (by omega), List.getD_eq_getElem?_getD, List.getElem?_eq_getElem (show t + 1 < q.M.length by omega)]
    rfl
   rw [e2, QR]⟩
theorem Zjy (q : IcP) (n lo A B : Nat) (L0 L1 : List ClS) (hq : q.Ok n A B) (hL : L0 = q.all) (hL1 : L1 = q.done) :
  evF (Zga q n lo A B) 20 195 [.nslice ⟨0, 0, 34, 0, 0⟩ 34 n lo, .int .i64 A, .int .i64 B, Z9n] (Z0q n L0) (Yc 1 (.ret (.tuple [])) 1 [(0, .rows 34 n (ZE L1))]) := by
 refine @Eq.mpr _ (let q1 := [AV.vrows 1 1 (ZO byC 0 1) 1];
 let q2 := decide (n = n);
 let q3 := IcP.N q;
 Z0 (decide (wrap i64 ((↑A : Int) + 1) = (↑(A + 1) : Int)))
 (Z0 (decide ((↑B : Int) = (↑B : Int)))
 (Z0 (decide ((↑A : Int) = (↑A : Int)))
 (q1 = q1 ∧
 Z0 q2
 (Z0 (decide (lo ≤ lo))
 (Z0 q2
 (Zc 1 [] n (ZE (IcP.L q 0)) (ZE L0) ∧
 IcP.Ok q n A B ∧
 ∀ (i : Nat),
 let q7 := Z0 q2 (Zc 1 [] n (ZE L1) (ZE (IcP.L q i)) ∧ True) False;
 i ≤ q3 → (∀ (j : Nat), j < i → (fun (t : Nat) => t < q3) j) → (i = q3 → q7) ∧ (False → q7) ∧ (False → False))
 False)
 False)
 False)
 False)
 False)
 False) (by kernel_rfl) ?_
 conv => zeta
 try simp only [Zg]
 try simp only [Zl]
 try simp only [Zh]
 try simp only [Zm]
 try simp only [Zn]
 try simp only [Zf]
 try simp only [Int.toNat_natCast, Nat.zero_add, true_and, and_true, Nat.le_refl]
 refine ⟨by rw [w64 (by have := hq.hn; have := hq.hA; have := hq.le; omega)]; omega, Ye (fun _ _ => by rw [hL, q.L0]), hq, fun i hi hg => ⟨fun he => ?_, fun h => h.elim, fun h => h.elim⟩⟩
 subst he
 exact Ye fun _ _ => by rw [hL1, q.LN]
def ZhE : Y9 := fun args h K => match args with
 | .nslice p esz len lo :: r => frA [p.blk] h 20 (.nslice p esz len lo :: r) fun Bs a => match Bs, a with
  | [.rows 34 m f], [.nslice ⟨0, 0, 34, 0, 0⟩ 34 n lo, .int .i64 A, .int .i64 B, .func (.func 124) [] [.pview [.vrows 1 1 g 1] 0]] => ∃ (q : IcP) (a b : Nat), (m = n ∧ A = (a : Int) ∧ B = (b : Int)) ∧ q.Ok n a b ∧ g = ZO byC 0 1 ∧ f = ZE q.all ∧ K (.ret (.tuple [])) ⟨h.next, (p.blk, .rows 34 n (ZE q.done)) :: XO h.bs p.blk⟩
  | _, _ => False
 | _ => False
theorem Zfo (args : List AV) (h : Z7) (K : KO) (hl : ZhE args h K) : Zk PP 195 args h K := by
 unfold ZhE at hl
 split at hl
 ·rename_i p esz len lo r
  refine Spec.fsumm (σ := [p.blk]) (d := 20) hl fun Bs a₀ hlen h0 => ?_
  split at h0
  ·obtain ⟨q, a, b, ⟨rfl, rfl, rfl⟩, hq, rfl, rfl, hK⟩ := h0
   exact ⟨_, _, _, _, _, .evM (Zd2 _ _ _ _ _) (Zjy q _ _ a b _ _ hq rfl rfl), Nat.le_refl 1, .ret _ _ rfl, .cons 0 _ _ _ _ _ rfl (.rows _ _ _ fun i _ => W5 _ i) .nil, hK⟩
  ·exact h0.elim
 ·exact hl.elim
noncomputable def Z3b : Zd := (G0.withF 195 ZhE).withF 196 noF
theorem Z6L : Z3b.Ok := Zd.withF_ok (Zd.withF_ok Zu Zfo) Z5q
def ZhF (n lo : Nat) (l : ZY) : ZY := l ++ [(2, Z9n), (1, .int .i64 n), (0, .nslice ⟨0, 0, 34, 0, 0⟩ 34 n lo)]
def Z6M (n lo : Nat) (L : List ClS) : St := ⟨63, ZhF n lo [(8, .int .i64 20), (7, .int .i64 0), (6, .int .i64 20)], Z0q n L, []⟩
def Z0r (n lo : Nat) (L : List ClS) : St := ⟨63, ZhF n lo [(7, .int .i64 0), (6, .int .i64 20)], Z0q n L, []⟩
def Z6N (n lo : Nat) (L : List ClS) : St := ⟨63, ZhF n lo [(6, .int .i64 20)], Z0q n L, []⟩
def Z0s (n lo : Nat) (L : List ClS) : St := ⟨63, [], Z0q n L, []⟩
theorem Zjz (n lo : Nat) (L : List ClS) (Z : Prop) (hn : n < 20) (hZ : Z) :
  ZF Z3b 20 167 0 1 (Z6M n lo L) (rdM 1 0 9 (Z6M n lo L) (Z0r n lo L) (Z0r n lo L) (Z0r n lo L) False Z False False) := by
 refine @Eq.mpr _ (let q1 := ZO byC 0 1;
 let q2 := ZE L;
 let q3 := [AV.vrows 1 1 q1 1];
 let q4 := decide (n = n);
 Z0 (decide (20 ≤ (↑n : Int))) ((∀ (i : Nat), i < n → true = true) ∧ ∃ (q : IcP), ∃ (a : Nat), ∃ (b : Nat), (n = n ∧ 0 = (↑a : Int) ∧ 20 = (↑b : Int)) ∧ IcP.Ok q n a b ∧ q1 = q1 ∧ q2 = ZE (IcP.all q) ∧ False) (q3 = q3 ∧ Z0 (decide ((↑n : Int) = (↑n : Int))) (Z0 q4 (Z0 (decide (lo ≤ lo)) (Z0 q4 (Zc 1 [] n q2 q2 ∧ Z) False) False) False) False)) (by kernel_rfl) ?_
 conv => zeta
 try simp only [Zg]
 try simp only [Zl]
 try simp only [Zh]
 try simp only [Zm]
 try simp only [Zn]
 try simp only [Zf]
 try simp only [Int.toNat_natCast, Nat.zero_add, true_and, and_true, Nat.le_refl]
 exact ⟨fun h => by omega, fun _ => ⟨Ye fun _ _ => rfl, hZ⟩⟩
theorem ZjA (n lo : Nat) (L : List ClS) (Z : Prop) (hn : n < 20) (hZ : Z) :
  ZF Z3b 20 167 2 1 (Z6N n lo L) (rdM 1 2 9 (Z6N n lo L) (Z0s n lo L) (Z0s n lo L) (Z0s n lo L) False Z False False) := by
 refine @Eq.mpr _ (Z0 (decide (20 < (↑n : Int))) (Z0 (decide (40 ≤ (↑n : Int))) False (Z0 (decide (20 < (↑n : Int))) False False)) (Z0 (decide (n = n)) (Zc 1 [] n (ZE L) (ZE L) ∧ Z) False)) (by kernel_rfl) ?_
 try simp only [Zg]
 try simp only [Zl]
 try simp only [Zh]
 try simp only [Zm]
 try simp only [Zn]
 try simp only [Zf]
 try simp only [Int.toNat_natCast, Nat.zero_add, true_and, and_true, Nat.le_refl]
 exact ⟨fun h => absurd h (by omega), fun _ => ⟨Ye fun _ _ => rfl, hZ⟩⟩
noncomputable def Zgb (n lo : Nat) (L L1 : List ClS) : Zd := (Z3b.withL 167 0 (goM 1 (Z6M n lo L) (n < 20) (Ym 0 0 9 (fun _ => False) (fun _ => True) (fun _ => False) (fun _ => False) (fun _ => Z0r n lo L) (fun _ => Z0r n lo L) (fun _ => Z0r n lo L)))).withL 167 2 (goM 1 (Z6N n lo L1) (n < 20) (Ym 2 0 9 (fun _ => False) (fun _ => True) (fun _ => False) (fun _ => False) (fun _ => Z0s n lo L1) (fun _ => Z0s n lo L1) (fun _ => Z0s n lo L1)))
theorem Zd3 (n lo : Nat) (L L1 : List ClS) : (Zgb n lo L L1).Ok := by
 have h0 : (Z3b.withL 167 0 _).Ok := Zd.withGoM (N := 20) (S := fun _ => Z6M n lo L) (S0 := Z6M n lo L) (C := n < 20) (n := 0) (l := 9) (go := fun _ => False) (ex := fun _ => True) (re := fun _ => False) (jm := fun _ => False) (En := fun _ => Z0r n lo L) (Rn := fun _ => Z0r n lo L) (Jn := fun _ => Z0r n lo L) Z6L (by kernel_rfl) fun hC => ⟨rfl, fun t _ _ => (by
  have := Zjz n lo L True hC trivial
  simpa only [false_and] using this)⟩
 have h2 : (Z3b.withL 167 2 _).Ok := Zd.withGoM (N := 20) (S := fun _ => Z6N n lo L1) (S0 := Z6N n lo L1) (C := n < 20) (n := 0) (l := 9) (go := fun _ => False) (ex := fun _ => True) (re := fun _ => False) (jm := fun _ => False) (En := fun _ => Z0s n lo L1) (Rn := fun _ => Z0s n lo L1) (Jn := fun _ => Z0s n lo L1) Z6L (by kernel_rfl) fun hC => ⟨rfl, fun t _ _ => (by
  have := ZjA n lo L1 True hC trivial
  simpa only [false_and] using this)⟩
 exact Zd.withL_join (H := Z3b) h0 rfl h2
theorem ZjB (n lo : Nat) (L L1 : List ClS) (hn : n < 20) (hl : L.length = n) (hok : ∀ m ∈ L, m.Ok) (hL : L1 = Z4t L) :
  evF (Zgb n lo L L1) 20 123 [.nslice ⟨0, 0, 34, 0, 0⟩ 34 n lo, Z9n] (Z0q n L) (Yc 1 (.ret (.tuple [])) 1 [(0, .rows 34 n (ZE L1))]) := by
 refine @Eq.mpr _ (let q1 := ZO byC 0 1;
 let q2 := [AV.vrows 1 1 q1 1];
 let q3 := q2 = q2;
 let q4 := decide ((↑n : Int) = (↑n : Int));
 let q5 := decide (n = n);
 let q6 := decide (lo ≤ lo);
 let q7 := ZE L;
 let q8 := ZE L1;
 let q9 := Z0 q5 (Zc 1 [] n q8 q8 ∧ True) False;
 q3 ∧ Z0 q4 (Z0 q5 (Z0 q6 (Z0 q5 (Zc 1 [] n q7 q7 ∧ n < 20 ∧ ∀ (i : Nat), i ≤ 0 → (∀ (j : Nat), j < i → (fun (x : Nat) => False) j) → (True → (∀ (i : Nat), i < n → true = true) ∧ ∃ (q : IcP), ∃ (a : Nat), ∃ (b : Nat), (n = n ∧ 0 = (↑a : Int) ∧ (↑n : Int) = (↑b : Int)) ∧ IcP.Ok q n a b ∧ q1 = q1 ∧ q7 = ZE (IcP.all q) ∧ q3 ∧ Z0 q4 (Z0 q5 (Z0 q6 (Z0 q5 (Zc 1 [] n q8 (ZE (IcP.done q)) ∧ n < 20 ∧ ∀ (i : Nat), i ≤ 0 → (∀ (j : Nat), j < i → (fun (x : Nat) => False) j) → (True → q9) ∧ (False → q9) ∧ (False → False)) False) False) False) False) ∧ (False → Z0 q5 (Zc 1 [] n q8 q7 ∧ True) False) ∧ (False → False)) False) False) False) False) (by kernel_rfl) ?_
 conv => zeta
 try simp only [Zg]
 try simp only [Zl]
 try simp only [Zh]
 try simp only [Zm]
 try simp only [Zn]
 try simp only [Zf]
 try simp only [Int.toNat_natCast, Nat.zero_add, true_and, and_true, Nat.le_refl]
 refine ⟨Ye fun _ _ => rfl, hn, fun i _ _ => ⟨fun _ => ⟨fun _ _ => trivial, ⟨[], L, []⟩, 0, n, ⟨rfl, rfl⟩, ⟨by simp [hl], rfl, by simp [hl], by omega, fun m hm => hok m (by simpa [IcP.all] using hm)⟩, by simp [IcP.all], Ye fun _ _ => by simp [IcP.done, hL], hn, fun j _ _ => ⟨fun _ => Ye fun _ _ => rfl, fun h => h.elim, fun h => h.elim⟩⟩, fun h => h.elim, fun h => h.elim⟩⟩
def ZhG : Y9 := fun args h K => match args with
 | .nslice p esz len lo :: r => frA [p.blk] h 20 (.nslice p esz len lo :: r) fun Bs a => match Bs, a with
  | [.rows 34 m f], [.nslice ⟨0, 0, 34, 0, 0⟩ 34 n lo, .func (.func 124) [] [.pview [.vrows 1 1 g 1] 0]] => ∃ (L : List ClS), (m = n ∧ n < 20 ∧ L.length = n) ∧ (∀ m ∈ L, m.Ok) ∧ g = ZO byC 0 1 ∧ f = ZE L ∧ K (.ret (.tuple [])) ⟨h.next, (p.blk, .rows 34 n (ZE (Z4t L))) :: XO h.bs p.blk⟩
  | _, _ => False
 | _ => False
theorem Zfp (args : List AV) (h : Z7) (K : KO) (hl : ZhG args h K) : Zk PP 123 args h K := by
 unfold ZhG at hl
 split at hl
 ·rename_i p esz len lo r
  refine Spec.fsumm (σ := [p.blk]) (d := 20) hl fun Bs a₀ hlen h0 => ?_
  split at h0
  ·obtain ⟨L, ⟨rfl, hn, hll⟩, hok, rfl, rfl, hK⟩ := h0
   exact ⟨_, _, _, _, _, .evM (Zd3 _ _ _ _) (ZjB _ _ L _ hn hll hok rfl), Nat.le_refl 1, .ret _ _ rfl, .cons 0 _ _ _ _ _ rfl (.rows _ _ _ fun i _ => W5 _ i) .nil, hK⟩
  ·exact h0.elim
 ·exact hl.elim
end Go.Tk
end
section
namespace Go.Tk
open IntKind (i64 u8 u32 u64 wrap)
def ZaM (v : AV) (N : Nat) (L : List ClS) : Prop := match v with
 | .vrows 34 n f m => (m = n ∧ N = n) ∧ ∀ i, i < n → f i = ZE L i
 | .nilslice => N = 0
 | .eslice => N = 0
 | .fslice => N = 0
 | _ => False
theorem ZaM.rel {v : AV} {N : Nat} {L : List ClS} (h : ZaM v N L) {E : Env} {r : Value} (hv : Zi E v r) : Zi E (.vrows 34 N (ZE L) N) r := by
 unfold ZaM at h
 split at h
 ·obtain ⟨⟨rfl, rfl⟩, hf⟩ := h
  exact hv.rowsC hf
 ·subst h; cases hv; exact .rows0 rfl (fun _ => rfl)
 ·subst h; cases hv with | eslice a => exact .rows0 rfl (fun _ => rfl)
 ·subst h; cases hv with | fslice a c => exact .rows0 rfl (fun h => by cases h)
 ·exact h.elim
theorem ZjC (m : Nat) (L : List ClS) (hm : m < 1000) :
  evF G0 20 67 [.vrows 34 (m + 1) (ZE L) (m + 1)] ⟨0, []⟩ (Yc 0 (.ret (.nslice ⟨0, 0, 34, 0, 0⟩ 34 (m + 1) (m + 1))) 1 [(0, .rows 34 (m + 1) (ZE L))]) := by
 refine @Eq.mpr _ (let q1 := m + 1;
 let q2 := 0 + q1;
 let q3 := decide (q2 = q1);
 Z0 (decide (q2 * 48 ≤ 140737488355328)) (Z0 q3 (Z0 (decide (q1 ≤ q2)) (Z0 q3 (Zc 0 [(0, 0)] q1 (ZE L) (Yf 0 (fun (x : Nat) => []) (ZE L)) ∧ True) False) False) False) False) (by kernel_rfl) ?_
 conv => zeta
 try simp only [Zg]
 try simp only [Zl]
 try simp only [Zh]
 try simp only [Zm]
 try simp only [Zn]
 try simp only [Zf]
 try simp only [Int.toNat_natCast, Nat.zero_add, true_and, and_true, Nat.le_refl]
 exact ⟨by omega, Ye fun i _ => by rw [XW (Nat.zero_le _)]; rfl⟩
theorem ZjD (L : List ClS)  :
  evF G0 20 67 [.nilslice] ⟨0, []⟩ (Yc 0 (.ret (.nslice ⟨0, 0, 34, 0, 0⟩ 34 0 0)) 1 [(0, .rows 34 0 (ZE L))]) := by
 refine @Eq.mpr _ (True) (by kernel_rfl) ?_
 trivial
theorem ZjE (L : List ClS)  :
  evF G0 20 67 [.fslice] ⟨0, []⟩ (Yc 0 (.ret (.nslice ⟨0, 0, 34, 0, 0⟩ 34 0 0)) 1 [(0, .rows 34 0 (ZE L))]) := by
 refine @Eq.mpr _ (Zc 0 [(0, 0)] 0 (ZE L) (Yf 0 (fun (x : Nat) => []) fun (x : Nat) => []) ∧ True) (by kernel_rfl) ?_
 try simp only [Zg]
 try simp only [Zl]
 try simp only [Zh]
 try simp only [Zm]
 try simp only [Zn]
 try simp only [Zf]
 try simp only [Int.toNat_natCast, Nat.zero_add, true_and, and_true, Nat.le_refl]
 exact Ye fun i hi => absurd hi (Nat.not_lt_zero i)
theorem Zd4 (n : Nat) (L : List ClS) (hn : n < 1000) : ZB PP 67 [.vrows 34 n (ZE L) n] (.nslice ⟨0, 0, 34, 0, 0⟩ 34 n n) 1 [(0, .rows 34 n (ZE L))] := by
 match n, hn with
 | 0, _ => exact ZB.vrows0 (.evM Zu (ZjD L)) (.evM Zu (ZjE L))
 | m + 1, h => exact .evM Zu (ZjC m L (by omega))
def ZjF : Y9 := fun args h K => ZH none h true 20 args fun a => match a with
 | [v] => ∃ N L, ZaM v N L ∧ N < 1000 ∧ K (.ret (.nslice ⟨h.next, 0, 34, 0, 0⟩ 34 N N)) ⟨h.next + 1, (h.next, .rows 34 N (ZE L)) :: h.bs⟩
 | _ => False
theorem Zfq (args : List AV) (h : Z7) (K : KO) (hl : ZjF args h K) : Zk PP 67 args h K := by
 refine ZB.fsumm (d := 20) (Zq _ _ _ _ _ hl fun a ha => ?_)
 split at ha
 ·obtain ⟨N, L, h1, h2, hK⟩ := ha
  exact ⟨_, _, _, _, (Zd4 N L h2).conv fun E r hr => hr.head (fun _ hc => h1.rel hc) (fun _ hc => hc), rfl, ⟨by decide, .rows _ _ _ (fun i _ => W5 L i), trivial⟩, hK⟩
 ·exact ha.elim
noncomputable def ZjG : Zd := (G0.withF 67 ZjF).withF 123 ZhG
theorem Zfr : ZjG.Ok := Zd.withF_ok (Zd.withF_ok Zu Zfq) Zfp
theorem ZjH (n : Nat) (L L1 : List ClS) (hn : n < 20) (hl : L.length = n) (hok : ∀ m ∈ L, m.Ok) (hL : L1 = Z4t L) :
  evF ZjG 20 42 [.vrows 34 n (ZE L) n] ⟨0, []⟩ (Yc 0 (.ret (.func (.func 70) [] [.ptr (some ⟨0, 0, 0, 0, 0⟩)])) 2 [(0, .flat [.nslice ⟨1, 0, 34, 0, 0⟩ 34 n n]), (1, .rows 34 n (ZE L1))]) := by
 refine @Eq.mpr _ (∃ (N : Nat),
 let q1 := decide (N = n);
 ∃ (L_1 : List ClS), ((n = n ∧ N = n) ∧ ∀ (i : Nat), i < n → ZE L i = ZE L_1 i) ∧ N < (1000 : Nat) ∧ (∀ (i : Nat), i < N → true = true) ∧ ∃ (L : List ClS), (N = N ∧ N < (20 : Nat) ∧ List.length L = N) ∧ (∀ (m : ClS), List.Mem m L → ClS.Ok m) ∧ ZO [AV.func (Fn.func (68 : Nat)) [] []] (0 : Nat) (1 : Nat) = ZO byC (0 : Nat) (1 : Nat) ∧ ZE L_1 = ZE L ∧ Z0 q1 (Z0 (decide (n ≤ N)) (Z0 q1 (Zc (0 : Nat) [((1 : Nat), (1 : Nat)), ((0 : Nat), (0 : Nat))] n (ZE L1) (ZE (Z4t L)) ∧ True) False) False) False) (by kernel_rfl) ?_
 conv => zeta
 try simp only [Zg]
 try simp only [Zl]
 try simp only [Zh]
 try simp only [Zm]
 try simp only [Zn]
 try simp only [Zf]
 try simp only [Int.toNat_natCast, Nat.zero_add, true_and, and_true, Nat.le_refl]
 exact ⟨n, L, ⟨rfl, fun _ _ => rfl⟩, by omega, fun _ _ => trivial, L, ⟨hn, hl⟩, hok, rfl, rfl, rfl, Nat.le_refl _, rfl, Ye fun _ _ => by rw [hL]⟩
def Zd5 (B : Nat) : Y9 := fun args h K => frA [] h 20 args fun _ a => match a with
 | [v] => ∃ N L, ZaM v N L ∧ (N < B ∧ L.length = N ∧ ∀ m ∈ L, m.Ok) ∧ ∀ L1, L1.Perm L → Wm ltC L1 → K (.ret (.func (.func 70) [] [.ptr (some ⟨h.next, 0, 0, 0, 0⟩)])) ⟨h.next + 2, (h.next, .flat [.nslice ⟨h.next + 1, 0, 34, 0, 0⟩ 34 N N]) :: (h.next + 1, .rows 34 N (ZE L1)) :: h.bs⟩
 | _ => False
theorem Z9p (args : List AV) (h : Z7) (K : KO) (hl : Zd5 20 args h K) : Zk PP 42 args h K := by
 refine Spec.fsumm (σ := []) (d := 20) hl fun Bs a₀ hlen h0 => ?_
 split at h0
 ·obtain ⟨N, L, h1, ⟨h2, h3, h4⟩, hK⟩ := h0
  refine ⟨_, _, _, _, _, (Spec.evM (h0 := ⟨0, []⟩) Zfr (ZjH N L _ h2 h3 h4 rfl)).conv fun E r hr => hr.head (fun _ hc => h1.rel hc) (fun _ hc => hc), Nat.zero_le _, .ret _ _ rfl, .cons 0 _ _ _ _ _ rfl (.flat _ _ rfl) (.cons 1 _ _ _ _ _ rfl (.rows _ _ _ fun i _ => W5 _ i) .nil), hK (Z4t L) ?_ (Ws Z8i .nil)⟩
  have := YZ (lt := ltC) (l := L) (acc := [])
  rwa [List.nil_append] at this
 ·exact h0.elim
end Go.Tk
end
section
namespace Go.Tk
open IntKind (i64 u8 u32 u64 wrap)
def WR (tl th ta : List Int) (x : InS) : InS := if x.way = 1 then ⟨x.name, x.index, x.way, tl, th, x.secret⟩ else if x.way = 4 then x else ⟨x.name, x.index, x.way, ta, x.also, x.secret⟩
def ZkH (t : TxS) (a b : List Int) (G : Nat → InS) : Z7 := ⟨7, [(0, .flat [.int .i64 t.num, .nslice ⟨5, 0, 130, 0, 0⟩ 130 t.N t.N, .nslice ⟨6, 0, 132, 0, 0⟩ 132 t.M t.M]), (1, .flat [.arr .u8 32 a]), (2, .flat [.arr .u8 32 b]), (3, .flat t.c), (4, .flat txZ), (5, .rows 130 t.N (Zb G)), (6, .rows 132 t.M (Z8 t.outs))]⟩
def ZkI : ZY := [(10, .ptr (some ⟨0, 0, 0, 0, 0⟩)), (4, .ptr (some ⟨1, 0, 0, 0, 0⟩)), (5, .ptr (some ⟨2, 0, 0, 0, 0⟩)), (9, .func (.func 46) [] [.ptr (some ⟨3, 0, 0, 0, 0⟩)]), (6, .ptr (some ⟨4, 0, 0, 0, 0⟩))]
def Zfs (t : TxS) (a b : List Int) (G : Nat → InS) (i : Nat) : St := ⟨75, (34, .int .i64 i) :: (33, .int .i64 t.N) :: ZkI, ZkH t a b G, []⟩
def ZaN (t : TxS) (G : Nat → InS) : St := ⟨75, [(10, .ptr (some ⟨0, 0, 0, 0, 0⟩)), (6, .ptr (some ⟨1, 0, 0, 0, 0⟩))], ⟨4, [(0, .flat [.int .i64 t.num, .nslice ⟨2, 0, 130, 0, 0⟩ 130 t.N t.N, .nslice ⟨3, 0, 132, 0, 0⟩ 132 t.M t.M]), (1, .flat txZ), (2, .rows 130 t.N (Zb G)), (3, .rows 132 t.M (Z8 t.outs))]⟩, []⟩
def Zd6 (A : List Int → Int × Int) (Tg : List Int → TxS → List Int) : ZW := fun args h K => ZH none h true 20 args fun a => match a with
 | [.agg l, .agg [.arr .u8 32 key]] => ∃ t, Z0h l t ∧ (t.Ok ∧ key.length = 32 ∧ Y6 A t = true) ∧ K (.tuple [.agg [.arr .u8 32 (Tg key t)], .int .i64 0])
 | _ => False
theorem ZaO (args : List AV) (h : Z7) (K : AV → Prop) (hl : Zd6 ZS YU args h K) : Zk PP 47 args h fun o h' => ∃ v, o = .ret v ∧ h' = h ∧ K v := by
 refine Zaq args h K (Zq _ _ _ _ _ hl fun a ha => ?_)
 split at ha
 ·obtain ⟨t, h1, ⟨h2, h3, h4⟩, hK⟩ := ha
  refine ⟨t, h1, ⟨h2, h3⟩, ?_⟩
  rw [h4]; exact hK
 ·exact ha.elim
noncomputable def Zd7 (A : List Int → Int × Int) (Tg : List Int → TxS → List Int) : Zd := (G0.withP 50 Zhz).withP 47 (Zd6 A Tg)
theorem Z9q : (Zd7 ZS YU).Ok := Zd.withP_ok (Zd.withP_ok Zu Zfi) ZaO
theorem ZjI (A : List Int → Int × Int) (Tg : List Int → TxS → List Int) (t : TxS) (a b tl th ta : List Int) (G G1 : Nat → InS) (i : Nat) (Z1 Z2 : Prop) (ht : t.Ok) (hN : t.N ≤ 24) (hc : Y6 A t = true) (ha : a.length = 32) (hb : b.length = 32) (htl : tl = Tg (loH a b) t) (hth : th = Tg (hiH a b) t) (hta : ta = Tg a t) (hi : i ≤ t.N) (hG : ∀ j, i ≤ j → G j = t.ins j) (hG1 : i < t.N → ∀ j, j < t.N → G1 j = if j = i then WR tl th ta (t.ins i) else G j) (h1 : i < t.N → Z1) (h2 : i = t.N → Z2) :
  ZF (Zd7 A Tg) 20 19 0 0 (Zfs t a b G i) (rdM 0 0 9 (Zfs t a b G1 (i + 1)) (ZaN t G) (ZaN t G) (ZaN t G) Z1 Z2 False False) := by
 refine @Eq.mpr _ (Z0 (decide ((↑i : Int) < (↑t.N : Int)))
 (Z0 (decide ((0 : Int) ≤ (↑i : Int) ∧ (↑i : Int) < (↑t.N : Int)))
 (Z0 (decide ((0 : Nat) + Int.toNat (↑i : Int) < t.N))
 (Z0 ((G ((0 : Nat) + Int.toNat (↑i : Int))).way == (1 : Int))
 ((List.length a = (32 : Nat) ∧ List.length b = (32 : Nat)) ∧
 ∃ (t_1 : TxS),
 (t_1.num = t.num ∧ ((t.N = t.N ∧ t_1.N = t.N) ∧ ∀ (i : Nat), i < t.N → Zb t.ins i = InS.c (t_1.ins i)) ∧ (t.M = t.M ∧ t_1.M = t.M) ∧ ∀ (i : Nat), i < t.M → Z8 t.outs i = Zs.c (t_1.outs i)) ∧
 (TxS.Ok t_1 ∧ List.length (loH a b) = (32 : Nat) ∧ Y6 A t_1 = true) ∧
 hiH a b = hiH a b ∧
 ∃ (t_2 : TxS),
 (t_2.num = t.num ∧ ((t.N = t.N ∧ t_2.N = t.N) ∧ ∀ (i : Nat), i < t.N → Zb t.ins i = InS.c (t_2.ins i)) ∧ (t.M = t.M ∧ t_2.M = t.M) ∧ ∀ (i : Nat), i < t.M → Z8 t.outs i = Zs.c (t_2.outs i)) ∧
 (TxS.Ok t_2 ∧ List.length (hiH a b) = (32 : Nat) ∧ Y6 A t_2 = true) ∧
 Z0 (decide ((0 : Nat) + Int.toNat (↑i : Int) < t.N))
 (Z0 (decide ((0 : Nat) + Int.toNat (↑i : Int) < t.N))
 (Z0 (decide (wrap i64 ((↑i : Int) + (1 : Int)) = (↑(i + (1 : Nat)) : Int)))
 (Z0 (decide ((↑t.N : Int) = (↑t.N : Int)))
 (Z0 (decide (t.num = t.num))
 (Z0 (decide (t.N = t.N))
 (Z0 (decide (t.N ≤ t.N))
 (Z0 (decide (t.M = t.M))
 (Z0 (decide (t.M ≤ t.M))
 (a = a ∧
 b = b ∧
 Z0 (decide (t.num = t.num))
 (Z0 (decide (t.N = t.N))
 (Zb t.ins = Zb t.ins ∧
 Z0 (decide (t.N = t.N))
 (Z0 (decide (t.M = t.M))
 (Z8 t.outs = Z8 t.outs ∧
 Z0 (decide (t.M = t.M))
 (Z0 (decide (t.N = t.N))
 (Zc (0 : Nat) [((6 : Nat), (6 : Nat)), ((5 : Nat), (5 : Nat)), ((4 : Nat), (4 : Nat)), ((3 : Nat), (3 : Nat)), ((2 : Nat), (2 : Nat)), ((1 : Nat), (1 : Nat)), ((0 : Nat), (0 : Nat))] t.N (Zb G1)
 (VP (VP (Zb G) ((0 : Nat) + Int.toNat (↑i : Int)) [AV.arr u8 (32 : Nat) (G ((0 : Nat) + Int.toNat (↑i : Int))).name, AV.int i64 (G ((0 : Nat) + Int.toNat (↑i : Int))).index, AV.int i64 (G ((0 : Nat) + Int.toNat (↑i : Int))).way, AV.arr u8 (32 : Nat) (Tg (loH a b) t_1), AV.arr u8 (32 : Nat) (G ((0 : Nat) + Int.toNat (↑i : Int))).also, AV.arr u8 (32 : Nat) (G ((0 : Nat) + Int.toNat (↑i : Int))).secret]) ((0 : Nat) + Int.toNat (↑i : Int))
 [AV.arr u8 (32 : Nat)
 (match Nat.beq ((0 : Nat) + Int.toNat (↑i : Int)) ((0 : Nat) + Int.toNat (↑i : Int)) with
 | true => (G ((0 : Nat) + Int.toNat (↑i : Int))).name
 | false => (G ((0 : Nat) + Int.toNat (↑i : Int))).name),
 AV.int i64
 (match Nat.beq ((0 : Nat) + Int.toNat (↑i : Int)) ((0 : Nat) + Int.toNat (↑i : Int)) with
 | true => (G ((0 : Nat) + Int.toNat (↑i : Int))).index
 | false => (G ((0 : Nat) + Int.toNat (↑i : Int))).index),
 AV.int i64
 (match Nat.beq ((0 : Nat) + Int.toNat (↑i : Int)) ((0 : Nat) + Int.toNat (↑i : Int)) with
 | true => (G ((0 : Nat) + Int.toNat (↑i : Int))).way
 | false => (G ((0 : Nat) + Int.toNat (↑i : Int))).way),
 AV.arr u8 (32 : Nat)
 (match Nat.beq ((0 : Nat) + Int.toNat (↑i : Int)) ((0 : Nat) + Int.toNat (↑i : Int)) with
 | true => Tg (loH a b) t_1
 | false => (G ((0 : Nat) + Int.toNat (↑i : Int))).tag),
 AV.arr u8 (32 : Nat) (Tg (hiH a b) t_2),
 AV.arr u8 (32 : Nat)
 (match Nat.beq ((0 : Nat) + Int.toNat (↑i : Int)) ((0 : Nat) + Int.toNat (↑i : Int)) with
 | true => (G ((0 : Nat) + Int.toNat (↑i : Int))).secret
 | false => (G ((0 : Nat) + Int.toNat (↑i : Int))).secret)]) ∧
 Z0 (decide (t.M = t.M)) (Zc (0 : Nat) [((6 : Nat), (6 : Nat)), ((5 : Nat), (5 : Nat)), ((4 : Nat), (4 : Nat)), ((3 : Nat), (3 : Nat)), ((2 : Nat), (2 : Nat)), ((1 : Nat), (1 : Nat)), ((0 : Nat), (0 : Nat))] t.M (Z8 t.outs) (Z8 t.outs) ∧ Z1) False)
 False)
 False)
 False)
 False)
 False)
 False)
 False)
 False)
 False)
 False)
 False)
 False)
 False)
 False)
 False)
 (Z0 ((G ((0 : Nat) + Int.toNat (↑i : Int))).way == (4 : Int))
 (Z0 (decide (wrap i64 ((↑i : Int) + (1 : Int)) = (↑(i + (1 : Nat)) : Int)))
 (Z0 (decide ((↑t.N : Int) = (↑t.N : Int))) (Z0 (decide (t.num = t.num)) (Z0 (decide (t.N = t.N)) (Z0 (decide (t.N ≤ t.N)) (Z0 (decide (t.M = t.M)) (Z0 (decide (t.M ≤ t.M)) (a = a ∧ b = b ∧ Z0 (decide (t.num = t.num)) (Z0 (decide (t.N = t.N)) (Zb t.ins = Zb t.ins ∧ Z0 (decide (t.N = t.N)) (Z0 (decide (t.M = t.M)) (Z8 t.outs = Z8 t.outs ∧ Z0 (decide (t.M = t.M)) (Z0 (decide (t.N = t.N)) (Zc (0 : Nat) [((6 : Nat), (6 : Nat)), ((5 : Nat), (5 : Nat)), ((4 : Nat), (4 : Nat)), ((3 : Nat), (3 : Nat)), ((2 : Nat), (2 : Nat)), ((1 : Nat), (1 : Nat)), ((0 : Nat), (0 : Nat))] t.N (Zb G1) (Zb G) ∧ Z0 (decide (t.M = t.M)) (Zc (0 : Nat) [((6 : Nat), (6 : Nat)), ((5 : Nat), (5 : Nat)), ((4 : Nat), (4 : Nat)), ((3 : Nat), (3 : Nat)), ((2 : Nat), (2 : Nat)), ((1 : Nat), (1 : Nat)), ((0 : Nat), (0 : Nat))] t.M (Z8 t.outs) (Z8 t.outs) ∧ Z1) False) False) False) False) False) False) False) False) False) False) False) False) False) False)
 (∃ (t_1 : TxS),
 (t_1.num = t.num ∧ ((t.N = t.N ∧ t_1.N = t.N) ∧ ∀ (i : Nat), i < t.N → Zb t.ins i = InS.c (t_1.ins i)) ∧ (t.M = t.M ∧ t_1.M = t.M) ∧ ∀ (i : Nat), i < t.M → Z8 t.outs i = Zs.c (t_1.outs i)) ∧
 (TxS.Ok t_1 ∧ List.length a = (32 : Nat) ∧ Y6 A t_1 = true) ∧
 Z0 (decide ((0 : Nat) + Int.toNat (↑i : Int) < t.N))
 (Z0 (decide (wrap i64 ((↑i : Int) + (1 : Int)) = (↑(i + (1 : Nat)) : Int)))
 (Z0 (decide ((↑t.N : Int) = (↑t.N : Int)))
 (Z0 (decide (t.num = t.num))
 (Z0 (decide (t.N = t.N))
 (Z0 (decide (t.N ≤ t.N))
 (Z0 (decide (t.M = t.M))
 (Z0 (decide (t.M ≤ t.M))
 (a = a ∧
 b = b ∧
 Z0 (decide (t.num = t.num))
 (Z0 (decide (t.N = t.N))
 (Zb t.ins = Zb t.ins ∧
 Z0 (decide (t.N = t.N))
 (Z0 (decide (t.M = t.M))
 (Z8 t.outs = Z8 t.outs ∧
 Z0 (decide (t.M = t.M)) (Z0 (decide (t.N = t.N)) (Zc (0 : Nat) [((6 : Nat), (6 : Nat)), ((5 : Nat), (5 : Nat)), ((4 : Nat), (4 : Nat)), ((3 : Nat), (3 : Nat)), ((2 : Nat), (2 : Nat)), ((1 : Nat), (1 : Nat)), ((0 : Nat), (0 : Nat))] t.N (Zb G1) (VP (Zb G) ((0 : Nat) + Int.toNat (↑i : Int)) [AV.arr u8 (32 : Nat) (G ((0 : Nat) + Int.toNat (↑i : Int))).name, AV.int i64 (G ((0 : Nat) + Int.toNat (↑i : Int))).index, AV.int i64 (G ((0 : Nat) + Int.toNat (↑i : Int))).way, AV.arr u8 (32 : Nat) (Tg a t_1), AV.arr u8 (32 : Nat) (G ((0 : Nat) + Int.toNat (↑i : Int))).also, AV.arr u8 (32 : Nat) (G ((0 : Nat) + Int.toNat (↑i : Int))).secret]) ∧ Z0 (decide (t.M = t.M)) (Zc (0 : Nat) [((6 : Nat), (6 : Nat)), ((5 : Nat), (5 : Nat)), ((4 : Nat), (4 : Nat)), ((3 : Nat), (3 : Nat)), ((2 : Nat), (2 : Nat)), ((1 : Nat), (1 : Nat)), ((0 : Nat), (0 : Nat))] t.M (Z8 t.outs) (Z8 t.outs) ∧ Z1) False) False) False)
 False)
 False)
 False)
 False)
 False)
 False)
 False)
 False)
 False)
 False)
 False)
 False)))
 False)
 False)
 (Z0 (decide (t.num = t.num)) (Z0 (decide (t.N = t.N)) (Z0 (decide (t.N ≤ t.N)) (Z0 (decide (t.M = t.M)) (Z0 (decide (t.M ≤ t.M)) (Z0 (decide (t.N = t.N)) (Zc (0 : Nat) [((3 : Nat), (6 : Nat)), ((2 : Nat), (5 : Nat)), ((1 : Nat), (4 : Nat)), ((0 : Nat), (0 : Nat))] t.N (Zb G) (Zb G) ∧ Z0 (decide (t.M = t.M)) (Zc (0 : Nat) [((3 : Nat), (6 : Nat)), ((2 : Nat), (5 : Nat)), ((1 : Nat), (4 : Nat)), ((0 : Nat), (0 : Nat))] t.M (Z8 t.outs) (Z8 t.outs) ∧ Z2) False) False) False) False) False) False) False)) (by kernel_rfl) ?_
 try simp only [Zg]
 try simp only [Zl]
 try simp only [Zh]
 try simp only [Zm]
 try simp only [Zn]
 try simp only [Zf]
 try simp only [Int.toNat_natCast, Nat.zero_add, true_and, and_true, Nat.le_refl]
 refine ⟨fun hlt' => ?_, fun hge => ⟨Yd fun _ _ => rfl, Y7 fun _ _ => rfl, h2 (by omega)⟩⟩
 have hlt : i < t.N := by omega
 have hwr : i64.wrap ((i : Int) + 1) = ((i + 1 : Nat) : Int) := by rw [w64 (by omega)]; omega
 have hG1 := hG1 hlt
 have hZ := h1 hlt
 have hO : ∀ τ, Zc 0 τ t.M (Z8 t.outs) (Z8 t.outs) := fun τ => Y7 fun _ _ => rfl
 have e1 := hG i (Nat.le_refl _)
 rw [e1]
 have hU : ∀ (A1 : List AV) j, A1 = (WR tl th ta (t.ins i)).c → j < t.N → VP (Zb G) i A1 j = (G1 j).c := fun A1 j hA hj => by
  rw [XG, hG1 j hj]
  by_cases e : j = i
  ·subst e; rw [Nat.beq_refl, if_pos rfl]; exact hA
  ·rw [Zv e, if_neg e]; rfl
 have hU2 : ∀ (A1 B1 : List AV) j, B1 = (WR tl th ta (t.ins i)).c → j < t.N → VP (VP (Zb G) i A1) i B1 j = (G1 j).c := fun A1 B1 j hB hj => by
  rw [XG, XG, hG1 j hj]
  by_cases e : j = i
  ·subst e; rw [Nat.beq_refl, if_pos rfl]; exact hB
  ·rw [Zv e, if_neg e]; rfl
 refine ⟨by omega, hlt, fun k1 => ⟨⟨ha, hb⟩, t, ⟨rfl, ⟨rfl, fun _ _ => rfl⟩, rfl, fun _ _ => rfl⟩, ⟨ht, Zfj ha hb, hc⟩, t, ⟨rfl, ⟨rfl, fun _ _ => rfl⟩, rfl, fun _ _ => rfl⟩, ⟨ht, Zfk ha hb, hc⟩, hlt, hlt, hwr, Yd fun j hj => hU2 _ _ j ?_ hj, hO _, hZ⟩, fun k1 => ⟨fun k2 => ⟨hwr, Yd fun j hj => ?_, hO _, hZ⟩, fun k2 => ⟨t, ⟨rfl, ⟨rfl, fun _ _ => rfl⟩, rfl, fun _ _ => rfl⟩, ⟨ht, ha, hc⟩, hlt, hwr, Yd fun j hj => hU _ j ?_ hj, hO _, hZ⟩⟩⟩
 ·have k1 : (t.ins i).way = 1 := by simpa using k1
  unfold WR
  rw [if_pos k1, ← htl, ← hth]
  simp only [Nat.beq_refl]
  rfl
 ·have k1 : ¬ (t.ins i).way = 1 := by simpa using k1
  have k2 : (t.ins i).way = 4 := by simpa using k2
  rw [hG1 j hj]
  split
  ·rename_i e
   subst e
   unfold WR
   rw [if_neg k1, if_pos k2, ← e1]; rfl
  ·rfl
 ·have k1 : ¬ (t.ins i).way = 1 := by simpa using k1
  have k2 : ¬ (t.ins i).way = 4 := by simpa using k2
  unfold WR
  rw [if_neg k1, if_neg k2, ← hta]
  rfl
def Z8m (Tg : List Int → TxS → List Int) (t : TxS) (a b : List Int) (i j : Nat) : InS := if j < i then WR (Tg (loH a b) t) (Tg (hiH a b) t) (Tg a t) (t.ins j) else t.ins j
structure Zft (A : List Int → Int × Int) (Tg : List Int → TxS → List Int) (t : TxS) (a b : List Int) (G : Nat → Nat → InS) : Prop where
 ht : t.Ok
 hN : t.N ≤ 24
 hc : Y6 A t = true
 ha : a.length = 32
 hb : b.length = 32
 hG : G = Z8m Tg t a b
noncomputable def Zd8 (A : List Int → Int × Int) (Tg : List Int → TxS → List Int) (t : TxS) (a b : List Int) (G : Nat → Nat → InS) : Zd := ((((Zd7 A Tg).withP 43 (ckS A)).withF 48 ZhA).withF 49 ZhB).withL 19 0 (goM 0 (Zfs t a b t.ins 0) (Zft A Tg t a b G) (Ym 0 t.N 9 (fun i => i < t.N) (fun i => i = t.N) (fun _ => False) (fun _ => False) (fun i => ZaN t (G i)) (fun i => ZaN t (G i)) (fun i => ZaN t (G i))))
theorem Z6O (t : TxS) (a b : List Int) (G : Nat → Nat → InS) : (Zd8 ZS YU t a b G).Ok := by
 have h0 : ((((Zd7 ZS YU).withP 43 (ckS ZS)).withF 48 ZhA).withF 49 ZhB).Ok := Zd.withF_ok (Zd.withF_ok (Zd.withP_ok Z9q Z5c) Zfl) Zfm
 refine Zd.withL_join (H := Zd7 ZS YU) h0 rfl ?_
 exact Zd.withGoM (N := 20) (S := fun i => Zfs t a b (Z8m YU t a b i) i) Z9q (by kernel_rfl) fun hC => by
  obtain ⟨c1, c2, c3, c4, c5, c6⟩ := hC
  subst c6
  refine ⟨?_, fun i hi _ => ZjI ZS YU t a b _ _ _ _ _ i _ _ c1 c2 c3 c4 c5 rfl rfl rfl hi (fun j hj => if_neg (by omega)) (fun hlt j hj => ?_) (fun h => ⟨h, h⟩) (fun h => h)⟩
  ·have e : Z8m YU t a b 0 = t.ins := funext fun j => if_neg (Nat.not_lt_zero j)
   rw [e]
  ·unfold Z8m
   by_cases e : j = i
   ·subst e; rw [if_pos (Nat.lt_succ_self _), if_pos rfl]
   ·rw [if_neg e]
    by_cases h : j < i
    ·rw [if_pos h, if_pos (by omega)]
    ·rw [if_neg h, if_neg (by omega)]
theorem ZjJ (A : List Int → Int × Int) (Tg : List Int → TxS → List Int) (t : TxS) (a b : List Int) (G : Nat → Nat → InS) (ht : t.Ok) (hb : Y6 A t = false) :
  evF (Zd8 A Tg t a b G) 20 19 [.agg t.c, .agg [.arr .u8 32 a], .agg [.arr .u8 32 b]] ⟨0, []⟩ (Yc 0 (.ret (.tuple [.agg txZ, .int .i64 2])) 0 []) := by
 refine @Eq.mpr _ (let q1 := t.num;
 let q2 := t.N;
 let q3 := t.M;
 let q4 := decide (q3 = q3);
 let q5 := Z8 t.outs;
 let q6 := q5 = q5;
 let q7 := decide (q1 = q1);
 let q8 := decide (q2 = q2);
 let q9 := Zb t.ins;
 let q10 := [(6, 5), (5, 4), (4, 3), (3, 0), (2, 2), (1, 1), (0, 6)];
 ∃ (t_1 : TxS),
 (t_1.num = q1 ∧ ((q2 = q2 ∧ t_1.N = q2) ∧ ∀ (i : Nat), i < q2 → q9 i = InS.c (t_1.ins i)) ∧ (q3 = q3 ∧ t_1.M = q3) ∧ ∀ (i : Nat), i < q3 → q5 i = Zs.c (t_1.outs i)) ∧
 TxS.Ok t_1 ∧
 Z0 (Y6 A t_1)
 (∃ (N : Nat),
 let q21 := decide (N = q2);
 ∃ (g : Nat → InS),
 ((q2 = q2 ∧ N = q2) ∧ ∀ (i : Nat), i < q2 → q9 i = InS.c (g i)) ∧
 N < 1000 ∧
 Z0 q4
 (q6 ∧
 Z0 q4
 (Z0 q7
 (∃ (N_1 : Nat),
 let q23 := decide (N_1 = q3);
 ∃ (g_1 : Nat → Zs), ((q3 = q3 ∧ N_1 = q3) ∧ ∀ (i : Nat), i < q3 → q5 i = Zs.c (g_1 i)) ∧ N_1 < 1000 ∧ Z0 q7 (Z0 (decide ((↑N : Int) = (↑q2 : Int))) (Z0 q7 (Z0 q21 (Z0 (decide (q2 ≤ N)) (Z0 q23 (Z0 (decide (q3 ≤ N_1)) (a = a ∧ b = b ∧ Z0 q7 (Z0 q8 (q9 = q9 ∧ Z0 q8 (Z0 q4 (q6 ∧ Z0 q4 (Z0 q21 (Zc 0 q10 q2 q9 (Zb g) ∧ Z0 q23 (Zc 0 q10 q3 q5 (Z8 g_1) ∧ Zft A Tg t a b G ∧ ∀ (i : Nat), i ≤ q2 → (∀ (j : Nat), j < i → (fun (i : Nat) => i < q2) j) → (i = q2 → Z0 (decide (q1 = 0)) False False) ∧ (False → False) ∧ (False → False)) False) False) False) False) False) False) False) False) False) False) False) False) False) False)
 False)
 False)
 False)
 True) (by kernel_rfl) ?_
 conv => zeta
 try simp only [Zg]
 try simp only [Zl]
 try simp only [Zh]
 try simp only [Zm]
 try simp only [Zn]
 try simp only [Zf]
 try simp only [Int.toNat_natCast, Nat.zero_add, true_and, and_true, Nat.le_refl]
 exact ⟨t, ⟨rfl, ⟨rfl, fun _ _ => rfl⟩, rfl, fun _ _ => rfl⟩, ht, fun k => (by rw [hb] at k; cases k), fun _ => trivial⟩
theorem ZjK (A : List Int → Int × Int) (Tg : List Int → TxS → List Int) (t : TxS) (a b : List Int) (G : Nat → Nat → InS) (g : Nat → InS) (hC : Zft A Tg t a b G) (hM : t.M ≤ 24) (hg : g = G t.N) :
  evF (Zd8 A Tg t a b G) 20 19 [.agg t.c, .agg [.arr .u8 32 a], .agg [.arr .u8 32 b]] ⟨0, []⟩ (Yc 0 (.ret (.tuple [.agg [.int .i64 t.num, .nslice ⟨0, 0, 130, 0, 0⟩ 130 t.N t.N, .nslice ⟨1, 0, 132, 0, 0⟩ 132 t.M t.M], .int .i64 0])) 2 [(0, .rows 130 t.N (Zb g)), (1, .rows 132 t.M (Z8 t.outs))]) := by
 refine @Eq.mpr _ (let q1 := t.num;
 let q2 := t.N;
 let q3 := t.M;
 let q4 := decide (q3 = q3);
 let q5 := Z8 t.outs;
 let q6 := q5 = q5;
 let q7 := decide (q1 = q1);
 let q8 := decide (q2 = q2);
 let q9 := Zb t.ins;
 let q10 := [(6, 5), (5, 4), (4, 3), (3, 0), (2, 2), (1, 1), (0, 6)];
 let q11 := [(1, 3), (0, 2)];
 let q12 := decide (q2 = 0);
 let q13 := decide (q3 = 0);
 ∃ (t_1 : TxS),
 (t_1.num = q1 ∧ ((q2 = q2 ∧ t_1.N = q2) ∧ ∀ (i : Nat), i < q2 → q9 i = InS.c (t_1.ins i)) ∧ (q3 = q3 ∧ t_1.M = q3) ∧ ∀ (i : Nat), i < q3 → q5 i = Zs.c (t_1.outs i)) ∧
 TxS.Ok t_1 ∧
 Z0 (Y6 A t_1)
 (∃ (N : Nat),
 let q27 := decide (N = q2);
 ∃ (g_1 : Nat → InS),
 ((q2 = q2 ∧ N = q2) ∧ ∀ (i : Nat), i < q2 → q9 i = InS.c (g_1 i)) ∧
 N < 1000 ∧
 Z0 q4
 (q6 ∧
 Z0 q4
 (Z0 q7
 (∃ (N_1 : Nat),
 let q29 := decide (N_1 = q3);
 ∃ (g_2 : Nat → Zs), ((q3 = q3 ∧ N_1 = q3) ∧ ∀ (i : Nat), i < q3 → q5 i = Zs.c (g_2 i)) ∧ N_1 < 1000 ∧ Z0 q7 (Z0 (decide ((↑N : Int) = (↑q2 : Int))) (Z0 q7 (Z0 q27 (Z0 (decide (q2 ≤ N)) (Z0 q29 (Z0 (decide (q3 ≤ N_1)) (a = a ∧ b = b ∧ Z0 q7 (Z0 q8 (q9 = q9 ∧ Z0 q8 (Z0 q4 (q6 ∧ Z0 q4 (Z0 q27 (Zc 0 q10 q2 q9 (Zb g_1) ∧ Z0 q29 (Zc 0 q10 q3 q5 (Z8 g_2) ∧ Zft A Tg t a b G ∧ ∀ (i : Nat), i ≤ q2 → (∀ (j : Nat), j < i → (fun (i : Nat) => i < q2) j) → (i = q2 → Z0 q7 (Z0 q8 (Z0 (decide (q2 ≤ q2)) (Z0 q4 (Z0 (decide (q3 ≤ q3)) (Z0 q8 (Zc 0 q11 q2 (Zb g) (Zb (G i)) ∧ Z0 q4 (Zc 0 q11 q3 q5 q5 ∧ True) False) False) False) False) False) False) False) ∧ (False → False) ∧ (False → False)) False) False) False) False) False) False) False) False) False) False) False) False) False) False)
 False)
 False)
 False)
 (Z0 (decide (0 = q1)) (Z0 q12 (Z0 q12 (Z0 q13 (Z0 q13 False False) False) False) False) False)) (by kernel_rfl) ?_
 conv => zeta
 try simp only [Zg]
 try simp only [Zl]
 try simp only [Zh]
 try simp only [Zm]
 try simp only [Zn]
 try simp only [Zf]
 try simp only [Int.toNat_natCast, Nat.zero_add, true_and, and_true, Nat.le_refl]
 have hN := hC.hN
 refine ⟨t, ⟨rfl, ⟨rfl, fun _ _ => rfl⟩, rfl, fun _ _ => rfl⟩, hC.ht, fun _ => ⟨t.N, t.ins, ⟨rfl, fun _ _ => rfl⟩, by omega, t.M, t.outs, ⟨rfl, fun _ _ => rfl⟩, by omega, rfl, rfl, Nat.le_refl _, rfl, Nat.le_refl _, rfl, Yd fun _ _ => rfl, rfl, Y7 fun _ _ => rfl, hC, fun i hi _ => ⟨fun he => ⟨Yd fun _ _ => by rw [he, hg]; rfl, Y7 fun _ _ => rfl⟩, fun h => h, fun h => h⟩⟩, fun k => ?_⟩
 rw [hC.hc] at k; cases k
def ZjL (A : List Int → Int × Int) (Tg : List Int → TxS → List Int) : Y9 := fun args h K => ZH none h true 20 args fun a => match a with
 | [.agg l, .agg [.arr .u8 32 a], .agg [.arr .u8 32 b]] => ∃ t, Z0h l t ∧ (t.Ok ∧ a.length = 32 ∧ b.length = 32) ∧ (Y6 A t = false → K (.ret (.tuple [.agg txZ, .int .i64 2])) h) ∧
  (Y6 A t = true → K (.ret (.tuple [.agg [.int .i64 t.num, .nslice ⟨h.next, 0, 130, 0, 0⟩ 130 t.N t.N, .nslice ⟨h.next + 1, 0, 132, 0, 0⟩ 132 t.M t.M], .int .i64 0])) ⟨h.next + 2, (h.next, .rows 130 t.N (Zb (Z8m Tg t a b t.N))) :: (h.next + 1, .rows 132 t.M (Z8 t.outs)) :: h.bs⟩)
 | _ => False
theorem Zd9 (args : List AV) (h : Z7) (K : KO) (hl : ZjL ZS YU args h K) : Zk PP 19 args h K := by
 refine ZB.fsumm (d := 20) (Zq _ _ _ _ _ hl fun a ha => ?_)
 split at ha
 ·obtain ⟨t, h1, ⟨h2, h3, h4⟩, k1, k2⟩ := ha
  cases hc : Y6 ZS t with
  | false => exact ⟨_, _, _, _, (ZB.evM (Z6O t _ _ (fun _ => t.ins)) (ZjJ _ _ t _ _ _ h2 hc)).conv (fun E r hr => hr.head (fun _ hc => h1.rel hc) (fun _ hc => hc)), rfl, trivial, k1 hc⟩
  | true =>
   have hf := VF h2 hc
   exact ⟨_, _, _, _, (ZB.evM (Z6O t _ _ _) (ZjK _ _ t _ _ _ _ ⟨h2, hf.n, hc, h3, h4, rfl⟩ hf.m rfl)).conv (fun E r hr => hr.head (fun _ hc => h1.rel hc) (fun _ hc => hc)), rfl, ⟨by decide, .rows _ _ _ (fun i _ => (Z8m YU t _ _ t.N i).plainC), by decide, .rows _ _ _ (fun i _ => (t.outs i).plainC), trivial⟩, k2 hc⟩
 ·exact ha.elim
end Go.Tk
end
section
namespace Go.Tk
open IntKind (i64 u8 u32 u64 wrap)
theorem ZjM (G : Nat → InS) (x : InS) {i j : Nat} (hj : j < i + 1) : Yf i (Zb G) (ZO x.c 0 130) j = (if j = i then x else G j).c := by
 by_cases e : j = i
 ·subst e; rw [if_pos rfl, XW (Nat.le_refl _), Nat.sub_self]; rfl
 ·rw [if_neg e, UX (by omega)]; rfl
end Go.Tk
end
section
namespace Go.Tk
open IntKind (i64 u8 u32 u64 wrap)
def Zgc (id n : Nat) (go ex bad : Nat → Prop) (En Bn : Nat → St) : KE → Prop := fun X =>
 ∀ i, i ≤ n → (∀ j, j < i → go j) → (ex i → X (.exit id) (En i)) ∧ (bad i → X (.exit id) (Bn i))
theorem Zd.withGoX {G : Zd} (hG : G.Ok) {f : FuncId} {id k N n : Nat} {S En Bn : Nat → St} {S0 : St} {C : Prop} {go ex bad : Nat → Prop} (h1 : WD G.P f id = true) (hC : C → S 0 = S0 ∧
   ∀ i, i ≤ n → (∀ j, j < i → go j) → ZF G N f id k (S i) (rdM k id 9 (S (i + 1)) (En i) (En i) (En i) (go i ∧ i < n) (ex i) False False) ∨
    ZF G N f id k (S i) (rdM k id 9 (S (i + 1)) (Bn i) (Bn i) (Bn i) (go i ∧ i < n) (bad i) False False)) :
  (G.withL f id (goM k S0 C (Zgc id n go ex bad En Bn))).Ok := by
 refine Zd.withL_ok hG h1 ?_
 intro k' s X hl
 unfold goM at hl
 split at hl
 ·rename_i hk
  have := Nat.eq_of_beq_eq_true hk
  subst this
  obtain ⟨⟨hc, hX⟩, hw⟩ := X2 hl
  obtain ⟨e0, hr⟩ := hC hc
  refine ⟨{ t : Nat // t ≤ n ∧ ∀ j, j < t → go j }, fun t => n - t.1, fun t => S t.1, ⟨0, Nat.zero_le _, fun j hj => by omega⟩, N, by show Ur k' s (S 0); rw [e0]; exact hw, ?_⟩
  rintro ⟨t, ht, hgo⟩
  rcases hr t ht hgo with hY0 | hY0
  all_goals
   refine ⟨_, hY0, ?_⟩
   intro e s' hY
   unfold rdM at hY
   split at hY
   ·obtain ⟨⟨hg, hlt⟩, hw'⟩ := X2 hY
    refine ⟨⟨t + 1, hlt, fun j hj => ?_⟩, by show n - (t + 1) < n - t; omega, hw'⟩
    by_cases hjt : j = t
    ·rw [hjt]; exact hg
    ·exact hgo j (by omega)
   ·split at hY
    ·rename_i hi
     have := Nat.eq_of_beq_eq_true hi
     subst this
     obtain ⟨hex, hw'⟩ := X2 hY
     first
      | exact ⟨_, hw', (hX t ht hgo).1 hex⟩
      | exact ⟨_, hw', (hX t ht hgo).2 hex⟩
    ·exact hY.elim
   ·exact (X2 hY).1.elim
   ·split at hY
    ·exact (X2 hY).1.elim
    ·exact hY.elim
   ·exact hY.elim
 ·exact hl.elim
end Go.Tk
end
section
namespace Go.Tk
open IntKind (i64 u8 u32 u64 wrap)
noncomputable def VL : Code := rfA PP 17 0
noncomputable def VM : Code := rfB PP 17 0
def pt0 (x : Nat) : AV := .ptr (some ⟨x, 0, 0, 0, 0⟩)
def swI (nm : List Int) (L : List ClS) (j : Nat) : InS := ⟨nm, (L.getD j cl0).index, (L.getD j cl0).way, Z5, Z5, (L.getD j cl0).secret⟩
def swV (t : TxS) (L : List ClS) (i : Nat) : List Int := (List.range i).map fun j => (t.outs (L.getD j cl0).index.toNat).amount
structure SwS where
 t : TxS
 key : List Int
 nm : List Int
 L : List ClS
 N : Nat
def SwS.hp (y : SwS) (e : Int) (n : Nat) (V : List Int) : List (Nat × Blk) := [(9, .defd), (8, .rows 34 y.N (ZE y.L)), (6, .flat [.nslice ⟨12, 0, 0, 0, 0⟩ 1 n n]), (5, .flat [.int .i64 0, .nslice ⟨11, 0, 130, 0, 0⟩ 130 n n, .nilslice]), (4, .flat [.arr .u8 32 y.nm]), (3, .flat [.int .i64 e]), (2, .flat txZ), (1, .flat [.arr .u8 32 y.key]), (0, .flat y.t.c), (11, .rows 130 n (Zb (swI y.nm y.L))), (12, .ints .i64 V)]
def ZjN : ZY := [(3, pt0 0), (4, pt0 1), (6, pt0 2), (7, pt0 3), (8, pt0 4), (10, pt0 5), (11, pt0 6)]
noncomputable def SwS.s (y : SwS) (i : Nat) (V : List Int) : St := ⟨16, [(7, .int .i64 i), (6, .int .i64 y.N), (5, .nslice ⟨8, 0, 34, 0, 0⟩ 34 y.N y.N), (0, .yield 10)], ⟨13, (10, .loop ⟨.ready, none, 17, 82, ZjN, [25], VL, VM, 9⟩) :: y.hp 0 i V⟩, []⟩
noncomputable def SwS.e (y : SwS) (ls : LoopState) (pe : Option Code) (e : Int) (i : Nat) (V : List Int) : St := ⟨16, [(0, .yield 10)], ⟨13, (10, .loop ⟨ls, pe, 17, 82, ZjN, [25], VL, VM, 9⟩) :: y.hp e i V⟩, []⟩
def U3 (M : Nat) (c : ClS) : Prop := 0 ≤ c.index ∧ c.index ≤ (M : Int) - 1 ∧ c.way ≠ 1
theorem ZjO (y : SwS) (ls : LoopState) (pe : Option Code) (e : Int) (i : Nat) (V V1 : List Int) (Z1 Z2 : Prop) (hN : y.N ≤ 30) (hM : y.t.M ≤ 24) (hi : i ≤ y.N) (hL : y.L.length = y.N) (hV : V.length = i) (hV1 : i < y.N → V1 = V ++ [(y.t.outs (y.L.getD i cl0).index.toNat).amount]) (h1 : i < y.N → U3 y.t.M (y.L.getD i cl0) → Z1) (h2 : i = y.N → (ls = .ready ∧ pe = none ∧ e = 0) ∧ Z2) (h3 : i < y.N → ¬ U3 y.t.M (y.L.getD i cl0) → (ls = .done ∧ pe = some .ret ∧ e = 2) ∧ Z2) :
  ZF G0 20 70 0 11 (y.s i V) (rdM 11 0 9 (y.s (i + 1) V1) (y.e ls pe e i V) (y.e ls pe e i V) (y.e ls pe e i V) Z1 Z2 False False) := by
 refine @Eq.mpr _ (let q1 := y.N;
 let q2 := (↑q1 : Int);
 let q3 := 0 + Int.toNat (↑i : Int);
 let q4 := y.L;
 let q5 := List.getD q4 q3 cl0;
 let q6 := q5.index;
 let q7 := y.t;
 let q8 := q7.M;
 let q9 := (↑q8 : Int);
 let q10 := (17 : FuncId) = 17 ∧ (82 : Nat) = 82 ∧ [(25 : Nat)] = [(25 : Nat)] ∧ VL = VL ∧ VM = VM;
 let q11 := decide (q1 = q1);
 let q12 := [(11, 11), (12, 12)];
 let q13 := ZE q4;
 let q14 := Zc 11 q12 q1 q13 q13;
 let q15 := decide (i = i);
 let q16 := decide (i ≤ i);
 let q17 := y.nm;
 let q18 := q17 = q17;
 let q19 := y.key = y.key;
 let q20 := q7.num;
 let q21 := decide (q20 = q20);
 let q22 := q7.N;
 let q23 := decide (q22 = q22);
 let q24 := Zb q7.ins;
 let q25 := q24 = q24;
 let q26 := decide (q8 = q8);
 let q27 := Z8 q7.outs;
 let q28 := q27 = q27;
 let q29 := Zb (swI q17 q4);
 let q30 := q19 ∧ Z0 q21 (Z0 q23 (q25 ∧ Z0 q23 (Z0 q26 (q28 ∧ Z0 q26 (Z0 q15 (Zc 11 q12 i q29 q29 ∧ V = V ∧ Z2) False) False) False) False) False) False;
 let q31 := (LoopState.done = ls ∧ some Code.ret = pe ∧ q10) ∧ Z0 q11 (q14 ∧ Z0 q15 (Z0 q16 (Z0 q15 (Z0 q16 (q18 ∧ Z0 (decide (2 = e)) q30 False) False) False) False) False) False;
 let q32 := q5.way;
 let q33 := i + 1;
 let q34 := V ++ [(q7.outs (Int.toNat q6)).amount];
 let q35 := List.length q34;
 let q36 := [(11, 16), (12, 18)];
 let q37 := decide (q33 = q33);
 let q38 := AV.arr u8 32 Z5;
 Z0 (decide ((↑i : Int) < q2))
 (Z0 (decide (0 ≤ (↑i : Int) ∧ (↑i : Int) < q2))
 (Z0 (decide (q3 < q1))
 (Z0 (decide (0 ≤ q6))
 (Z0 (!decide (q6 ≤ wrap i64 (q9 - 1))) q31
 (Z0 (q32 == 1) q31 (Z0 q15 (Z0 (decide (q33 * 144 ≤ 140737488355328)) (Z0 (decide (0 ≤ q6 ∧ q6 < q9)) (Z0 q15 (Z0 q15 (Z0 (decide (i64 = i64 ∧ List.length V = i)) (Z0 (decide (q35 * 8 ≤ 140737488355328)) (Z0 (decide (wrap i64 ((↑i : Int) + 1) = (↑q33 : Int))) (Z0 (decide (q2 = q2)) (Z0 q11 (Z0 (decide (q1 ≤ q1)) ((LoopState.ready = LoopState.ready ∧ (none : Option Code) = none ∧ q10) ∧ Z0 q11 (Zc 11 q36 q1 q13 q13 ∧ Z0 (decide (q35 = q33)) (Z0 (decide (q33 ≤ q35)) (Z0 q37 (Z0 (decide (q33 ≤ q33)) (q18 ∧ q19 ∧ Z0 q21 (Z0 q23 (q25 ∧ Z0 q23 (Z0 q26 (q28 ∧ Z0 q26 (Z0 q37 (Zc 11 q36 q33 q29 (Yf i q29 (ZO [AV.arr u8 32 q17, AV.int i64 q6, AV.int i64 q32, q38, q38, AV.arr u8 32 q5.secret] 0 130)) ∧ q34 = V1 ∧ Z1) False) False) False) False) False) False) False) False) False) False) False) False) False) False) False) False) False) False) False) False) False) False)))
 q31)
 False)
 False)
 ((LoopState.ready = ls ∧ none = pe ∧ q10) ∧ Z0 q11 (q14 ∧ Z0 q15 (Z0 q16 (Z0 q15 (Z0 q16 (q18 ∧ Z0 (decide (0 = e)) q30 False) False) False) False) False) False)) (by kernel_rfl) ?_
 conv => zeta
 try simp only [Zg]
 try simp only [Zl]
 try simp only [Zh]
 try simp only [Zm]
 try simp only [Zn]
 try simp only [Zf]
 try simp only [Int.toNat_natCast, Nat.zero_add, true_and, and_true, Nat.le_refl]
 have rK : ∀ τ, Zc 11 τ y.N (ZE y.L) (ZE y.L) := fun τ => Ye fun _ _ => rfl
 have rI : ∀ τ, Zc 11 τ i (Zb (swI y.nm y.L)) (Zb (swI y.nm y.L)) := fun τ => Yd fun _ _ => rfl
 have hwM : i64.wrap ((y.t.M : Int) - 1) = (y.t.M : Int) - 1 := w64 (by omega)
 rw [hwM]
 refine ⟨fun hc => ?_, fun hc => ?_⟩
 ·have hlt : i < y.N := by omega
  have hwr : i64.wrap ((i : Int) + 1) = ((i + 1 : Nat) : Int) := by rw [w64 (by omega)]; omega
  have bad : ¬ U3 y.t.M (y.L.getD i cl0) → (LoopState.done = ls ∧ some Code.ret = pe) ∧ Zc 11 [(11, 11), (12, 12)] y.N (ZE y.L) (ZE y.L) ∧ 2 = e ∧ Zc 11 [(11, 11), (12, 12)] i (Zb (swI y.nm y.L)) (Zb (swI y.nm y.L)) ∧ Z2 := fun hb => by
   obtain ⟨⟨x1, x2, x3⟩, hz⟩ := h3 hlt hb
   exact ⟨⟨x1.symm, x2.symm⟩, rK _, x3.symm, rI _, hz⟩
  refine ⟨by omega, hlt, fun k1 => ⟨fun k2 => bad fun hg => ?_, fun k2 => ⟨fun k3 => bad fun hg => ?_, fun k3 => ?_⟩⟩, fun k1 => bad fun hg => k1 hg.1⟩
  ·have := hg.2.1
   simp only [Bool.not_eq_true', decide_eq_false_iff_not] at k2
   exact k2 this
  ·have := hg.2.2
   simp only [beq_iff_eq] at k3
   exact this k3
  ·simp only [Bool.not_eq_false', decide_eq_true_eq] at k2
   simp only [beq_eq_false_iff_ne, ne_eq] at k3
   have e1 := hV1 hlt
   rw [← e1]
   have l1 : V1.length = i + 1 := by rw [e1]; simp [hV]
   exact ⟨by omega, by omega, hV, by omega, hwr, rK _, l1, by omega, Yd fun j hj => (ZjM (swI y.nm y.L) (swI y.nm y.L i) hj).trans (by split <;> simp_all), rfl, h1 hlt ⟨k1, k2, k3⟩⟩
 ·obtain ⟨⟨x1, x2, x3⟩, hz⟩ := h2 (by omega)
  exact ⟨⟨x1.symm, x2.symm⟩, rK _, x3.symm, rI _, hz⟩
theorem Z5u (t : TxS) (L : List ClS) (i : Nat) : (swV t L i).length = i := by simp [swV]
theorem Z6P (t : TxS) (L : List ClS) (i : Nat) : swV t L (i + 1) = swV t L i ++ [(t.outs (L.getD i cl0).index.toNat).amount] := by simp [swV, List.range_succ]
structure SwC (y : SwS) (V : Nat → List Int) : Prop where
 hN : y.N ≤ 30
 hM : y.t.M ≤ 24
 hL : y.L.length = y.N
 hV : V = swV y.t y.L
def swL (y : SwS) (V : Nat → List Int) : Nat → St → KE → Prop := goM 11 (y.s 0 []) (SwC y V) (Zgc 0 y.N (fun i => U3 y.t.M (y.L.getD i cl0)) (fun i => i = y.N) (fun i => i < y.N ∧ ¬ U3 y.t.M (y.L.getD i cl0)) (fun i => y.e .ready none 0 i (V i)) (fun i => y.e .done (some .ret) 2 i (V i)))
theorem ZhH (y : SwS) (V : Nat → List Int) : (G0.withL 70 0 (swL y V)).Ok :=
 Zd.withGoX (N := 20) (S := fun i => y.s i (swV y.t y.L i)) Zu (by kernel_rfl) fun hC => ⟨rfl, fun i hi hgo => by
  obtain ⟨c1, c2, c3, c4⟩ := hC
  subst c4
  by_cases h : i < y.N ∧ ¬ U3 y.t.M (y.L.getD i cl0)
  ·exact .inr (ZjO y .done (some .ret) 2 i _ _ _ _ c1 c2 hi c3 (Z5u _ _ _) (fun _ => Z6P _ _ _) (fun h1 h2 => ⟨h2, h1⟩) (fun h1 => by omega) (fun h1 h2 => ⟨⟨rfl, rfl, rfl⟩, h1, h2⟩))
  ·exact .inl (ZjO y .ready none 0 i _ _ _ _ c1 c2 hi c3 (Z5u _ _ _) (fun _ => Z6P _ _ _) (fun h1 h2 => ⟨h2, h1⟩) (fun h1 => ⟨⟨rfl, rfl, rfl⟩, h1⟩) (fun h1 h2 => absurd ⟨h1, h2⟩ h))⟩
end Go.Tk
end
