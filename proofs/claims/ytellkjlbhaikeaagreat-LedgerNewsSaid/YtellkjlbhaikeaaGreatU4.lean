/- U: part 4 of an engine (a symbolic evaluator, proved against the model) and of the walk by it. -/
import Derived.Test.YtellkjlbhaikeaaGreatU3
import Derived.OpenShut
import Derived.WideShapes
import Derived.ChangeSlices
import Derived.WalkKit
import Derived.ProofKit
import Derived.Below
import Derived.Handed
import Derived.Carry
import Derived.Shelf.SlSortCmp.WholeK
set_option linter.unusedVariables false
set_option linter.unusedSimpArgs false
set_option maxRecDepth 100000
set_option maxHeartbeats 0
section
namespace Go.Tk
open IntKind (i64 u8 u32 u64 wrap)
def b8 (n k : Int) : Int := u8.wrap (Zt .i64 n k)
@[irreducible] def ZE (n : Int) : List Int :=
 if n < 253 then [u8.wrap n] else if n < 65536 then [253, b8 n 8, b8 n 0] else if n < 4294967296 then [254, b8 n 24, b8 n 16, b8 n 8, b8 n 0]
 else [255, b8 n 56, b8 n 48, b8 n 40, b8 n 32, b8 n 24, b8 n 16, b8 n 8, b8 n 0]
theorem ZA (n : Int) : 1 ≤ (ZE n).length ∧ (ZE n).length ≤ 9 := by
 unfold ZE
 split
 ·simp
 ·split
  ·simp
  ·split <;> simp
theorem Z6N {n : Int} (h : n < 253) : ZE n = [u8.wrap n] := by unfold ZE; rw [if_pos h]
theorem Z6O {n : Int} (h : ¬ n < 253) (h2 : n < 65536) : ZE n = [253, b8 n 8, b8 n 0] := by unfold ZE; rw [if_neg h, if_pos h2]
theorem Z6P {n : Int} (h : ¬ n < 253) (h2 : ¬ n < 65536) (h3 : n < 4294967296) : ZE n = [254, b8 n 24, b8 n 16, b8 n 8, b8 n 0] := by unfold ZE; rw [if_neg h, if_neg h2, if_pos h3]
theorem Z6Q {n : Int} (h : ¬ n < 253) (h2 : ¬ n < 65536) (h3 : ¬ n < 4294967296) : ZE n = [255, b8 n 56, b8 n 48, b8 n 40, b8 n 32, b8 n 24, b8 n 16, b8 n 8, b8 n 0] := by unfold ZE; rw [if_neg h, if_neg h2, if_neg h3]
theorem ZaM (xs ys : List Int) (N L s lo : Nat) (n : Int) (hN : xs.length = N) (hB : N < 90000000000000) (hy : ys = ZE n) (hL : L = (xs ++ ys).length) :
  evF G0 20 118 [.nslice ⟨0, 0, s, 0, 0⟩ 1 N lo, .int .i64 n] ⟨1, [(0, .ints .u8 xs)]⟩ (YK 1 (.ret (.nslice ⟨1, 0, 0, 0, 0⟩ 1 L L)) 2 [(1, .ints .u8 (xs ++ ys))]) := by
 refine @Eq.mpr _ (let q1 := decide (u8 = u8 ∧ List.length xs = N);
 let q2 := xs ++ [wrap u8 n];
 let q3 := List.length q2;
 let q4 := xs ++ ys;
 let q5 := xs ++ [(253 : Int)];
 let q6 := List.length q5;
 let q7 := [wrap u8 (Zt i64 n 8)];
 let q8 := q5 ++ q7;
 let q9 := List.length q8;
 let q10 := [wrap u8 (Zt i64 n 0)];
 let q11 := q8 ++ q10;
 let q12 := List.length q11;
 let q13 := xs ++ [(254 : Int)];
 let q14 := List.length q13;
 let q15 := [wrap u8 (Zt i64 n 24)];
 let q16 := q13 ++ q15;
 let q17 := List.length q16;
 let q18 := [wrap u8 (Zt i64 n 16)];
 let q19 := q16 ++ q18;
 let q20 := List.length q19;
 let q21 := q19 ++ q7;
 let q22 := List.length q21;
 let q23 := q21 ++ q10;
 let q24 := List.length q23;
 let q25 := xs ++ [(255 : Int)];
 let q26 := List.length q25;
 let q27 := q25 ++ [wrap u8 (Zt i64 n 56)];
 let q28 := List.length q27;
 let q29 := q27 ++ [wrap u8 (Zt i64 n 48)];
 let q30 := List.length q29;
 let q31 := q29 ++ [wrap u8 (Zt i64 n 40)];
 let q32 := List.length q31;
 let q33 := q31 ++ [wrap u8 (Zt i64 n 32)];
 let q34 := List.length q33;
 let q35 := q33 ++ q15;
 let q36 := List.length q35;
 let q37 := q35 ++ q18;
 let q38 := List.length q37;
 let q39 := q37 ++ q7;
 let q40 := List.length q39;
 let q41 := q39 ++ q10;
 let q42 := List.length q41;
 Z0 (decide (n < 253)) (Z0 q1 (Z0 (decide (q3 * 1 ≤ 140737488355328)) (Z0 (decide (q3 = L)) (Z0 (decide (L ≤ q3)) (q2 = q4 ∧ True) False) False) False) False)
 (Z0 (decide (n < 65536)) (Z0 q1 (Z0 (decide (q6 * 1 ≤ 140737488355328)) (Z0 (decide (u8 = u8 ∧ q6 = q6)) (Z0 (decide (q9 * 1 ≤ 140737488355328)) (Z0 (decide (u8 = u8 ∧ q9 = q9)) (Z0 (decide (q12 * 1 ≤ 140737488355328)) (Z0 (decide (q12 = L)) (Z0 (decide (L ≤ q12)) (q11 = q4 ∧ True) False) False) False) False) False) False) False) False)
 (Z0 (decide (n < 4294967296)) (Z0 q1 (Z0 (decide (q14 * 1 ≤ 140737488355328)) (Z0 (decide (u8 = u8 ∧ q14 = q14)) (Z0 (decide (q17 * 1 ≤ 140737488355328)) (Z0 (decide (u8 = u8 ∧ q17 = q17)) (Z0 (decide (q20 * 1 ≤ 140737488355328)) (Z0 (decide (u8 = u8 ∧ q20 = q20)) (Z0 (decide (q22 * 1 ≤ 140737488355328)) (Z0 (decide (u8 = u8 ∧ q22 = q22)) (Z0 (decide (q24 * 1 ≤ 140737488355328)) (Z0 (decide (q24 = L)) (Z0 (decide (L ≤ q24)) (q23 = q4 ∧ True) False) False) False) False) False) False) False) False) False) False) False) False)
 (Z0 q1
 (Z0 (decide (q26 * 1 ≤ 140737488355328))
 (Z0 (decide (u8 = u8 ∧ q26 = q26)) (Z0 (decide (q28 * 1 ≤ 140737488355328)) (Z0 (decide (u8 = u8 ∧ q28 = q28)) (Z0 (decide (q30 * 1 ≤ 140737488355328)) (Z0 (decide (u8 = u8 ∧ q30 = q30)) (Z0 (decide (q32 * 1 ≤ 140737488355328)) (Z0 (decide (u8 = u8 ∧ q32 = q32)) (Z0 (decide (q34 * 1 ≤ 140737488355328)) (Z0 (decide (u8 = u8 ∧ q34 = q34)) (Z0 (decide (q36 * 1 ≤ 140737488355328)) (Z0 (decide (u8 = u8 ∧ q36 = q36)) (Z0 (decide (q38 * 1 ≤ 140737488355328)) (Z0 (decide (u8 = u8 ∧ q38 = q38)) (Z0 (decide (q40 * 1 ≤ 140737488355328)) (Z0 (decide (u8 = u8 ∧ q40 = q40)) (Z0 (decide (q42 * 1 ≤ 140737488355328)) (Z0 (decide (q42 = L)) (Z0 (decide (L ≤ q42)) (q41 = q4 ∧ True) False) False) False) False) False) False) False) False) False) False) False) False) False) False) False) False) False) False) False)
 False)))) (by kernel_rfl) ?_
 conv => zeta
 try simp only [Zk]
 try simp only [Zl]
 try simp only [Zi]
 try simp only [Int.toNat_natCast, Nat.zero_add, true_and, and_true, Nat.le_refl]
 subst hy hL hN
 refine ⟨fun h1 => ?_, fun h1 => ⟨fun h2 => ?_, fun h2 => ⟨fun h3 => ?_, fun h3 => ?_⟩⟩⟩
 ·rw [Z6N h1]
  simp only [List.length_append, List.length_cons, List.length_nil]
  and_intros <;> first | trivial | omega
 ·rw [Z6O h1 h2]
  simp only [List.length_append, List.length_cons, List.length_nil]
  and_intros <;> first | trivial | omega | simp [b8]
 ·rw [Z6P h1 h2 h3]
  simp only [List.length_append, List.length_cons, List.length_nil]
  and_intros <;> first | trivial | omega | simp [b8]
 ·rw [Z6Q h1 h2 h3]
  simp only [List.length_append, List.length_cons, List.length_nil]
  and_intros <;> first | trivial | omega | simp [b8]
theorem ZaN (ys : List Int) (L : Nat) (n : Int) (hy : ys = ZE n) (hL : L = ys.length) :
  evF G0 20 118 [.nilslice, .int .i64 n] ⟨0, []⟩ (YK 0 (.ret (.nslice ⟨0, 0, 0, 0, 0⟩ 1 L L)) 1 [(0, .ints .u8 ys)]) := by
 refine @Eq.mpr _ (let q1 := [wrap u8 (Zt i64 n 8), wrap u8 (Zt i64 n 0)];
 let q2 := wrap u8 (Zt i64 n 24) :: wrap u8 (Zt i64 n 16) :: q1;
 Z0 (decide (n < 253)) (Z0 (decide (1 = L)) (Z0 (decide (L ≤ 1)) ([wrap u8 n] = ys ∧ True) False) False) (Z0 (decide (n < 65536)) (Z0 (decide (3 = L)) (Z0 (decide (L ≤ 3)) ((253 : Int) :: q1 = ys ∧ True) False) False) (Z0 (decide (n < 4294967296)) (Z0 (decide (5 = L)) (Z0 (decide (L ≤ 5)) ((254 : Int) :: q2 = ys ∧ True) False) False) (Z0 (decide (9 = L)) (Z0 (decide (L ≤ 9)) ((255 : Int) :: wrap u8 (Zt i64 n 56) :: wrap u8 (Zt i64 n 48) :: wrap u8 (Zt i64 n 40) :: wrap u8 (Zt i64 n 32) :: q2 = ys ∧ True) False) False)))) (by kernel_rfl) ?_
 conv => zeta
 try simp only [Zk]
 try simp only [Zl]
 try simp only [Zi]
 try simp only [Int.toNat_natCast, Nat.zero_add, true_and, and_true, Nat.le_refl]
 subst hy hL
 refine ⟨fun h1 => ?_, fun h1 => ⟨fun h2 => ?_, fun h2 => ⟨fun h3 => ?_, fun h3 => ?_⟩⟩⟩
 ·rw [Z6N h1]; simp
 ·rw [Z6O h1 h2]; simp [b8]
 ·rw [Z6P h1 h2 h3]; simp [b8]
 ·rw [Z6Q h1 h2 h3]; simp [b8]
def Z9Z (W : Int → List Int) : Yz := fun args h K => match args with
 | [.nslice ⟨b, 0, _, 0, 0⟩ 1 _ _, .int .i64 _] => frA [b] h 20 args fun Bs a => match Bs, a with
  | [.ints .u8 xs], [.nslice ⟨0, 0, _, 0, 0⟩ 1 len _, .int .i64 n] => Zj (xs.length = len ∧ len < 90000000000000) (K (.ret (.nslice ⟨h.next, 0, 0, 0, 0⟩ 1 (xs ++ W n).length (xs ++ W n).length)) ⟨h.next + 1, (h.next, .ints .u8 (xs ++ W n)) :: Wv h.bs b⟩)
  | _, _ => False
 | [.nilslice, .int .i64 n] => K (.ret (.nslice ⟨h.next, 0, 0, 0, 0⟩ 1 (W n).length (W n).length)) ⟨h.next + 1, (h.next, .ints .u8 (W n)) :: h.bs⟩
 | _ => False
theorem Z8i (args : List AV) (h : Z5) (K : KO) (hl : Z9Z ZE args h K) : Zc PP 118 args h K := by
 unfold Z9Z at hl
 split at hl
 ·refine Spec.fsumm hl fun Bs a hlen hK0 => ?_
  split at hK0
  ·obtain ⟨⟨h1, h2⟩, hK⟩ := Z7 hK0
   exact ⟨_, _, _, _, _, .evM Zv (ZaM _ _ _ _ _ _ _ h1 h2 rfl rfl), by simp, .ret _ _ rfl, .cons _ _ _ _ _ _ rfl (.ints _ _) .nil, hK⟩
  ·exact hK0.elim
 ·exact (Zx.evM Zv (ZaN _ _ _ rfl rfl)).calls (fun E w rs he hr => by
   cases hr with
   | cons v r vs rs h1 h2 => cases h2 with
    | cons v r vs rs h2 h3 => cases h3; exact .cons _ _ _ _ (h1.plain rfl) (.cons _ _ _ _ (h2.plain rfl) .nil)) rfl ⟨Nat.one_pos, .ints _ _, trivial⟩ hl
 ·exact hl.elim
theorem Z6R (x : Int) (xs : List Int) (N : Nat) (hN : (x :: xs).length = N) (hB : N < 90000000000000) :
  evF G0 20 119 [.vints .u8 (x :: xs) N] ⟨0, []⟩ (YK 0 (.ret (.nslice ⟨0, 0, 0, 0, 0⟩ 1 N N)) 1 [(0, .ints .u8 (x :: xs))]) := by
 refine @Eq.mpr _ (let q1 := [] ++ List.take N (x :: xs);
 let q2 := List.length q1;
 Z0 (decide (q2 * 1 ≤ 140737488355328)) (Z0 (decide (q2 = N)) (Z0 (decide (N ≤ q2)) (q1 = x :: xs ∧ True) False) False) False) (by kernel_rfl) ?_
 conv => zeta
 try simp only [Zk]
 try simp only [Zn]
 try simp only [Zl]
 try simp only [Zo]
 try simp only [Zp]
 try simp only [Zi]
 try simp only [Int.toNat_natCast, Nat.zero_add, true_and, and_true, Nat.le_refl]
 subst hN
 simp only [List.nil_append, List.take_length]
 and_intros <;> first | trivial | omega
theorem Z6S (u : Unit)  :
  evF G0 20 119 [.nilslice] ⟨0, []⟩ (YK 0 (.ret (.nslice ⟨0, 0, 0, 0, 0⟩ 1 0 0)) 1 [(0, .ints .u8 [])]) := by
 refine @Eq.mpr _ (([] : List Int) = [] ∧ True) (by kernel_rfl) ?_
 trivial
theorem Z6T (u : Unit)  :
  evF G0 20 119 [.fslice] ⟨0, []⟩ (YK 0 (.ret (.nslice ⟨0, 0, 0, 0, 0⟩ 1 0 0)) 1 [(0, .ints .u8 [])]) := by
 refine @Eq.mpr _ (([] : List Int) = [] ∧ True) (by kernel_rfl) ?_
 trivial
theorem Z2I (xs : List Int) (N : Nat) (hN : xs.length = N) (hB : N < 90000000000000) : Zx PP 119 [.vints .u8 xs N] (.nslice ⟨0, 0, 0, 0, 0⟩ 1 N N) 1 [(0, .ints .u8 xs)] := by
 cases xs with
 | nil => subst hN; exact Zx.vints0 (.evM Zv (Z6S ())) (.evM Zv (Z6T ()))
 | cons x r => exact .evM Zv (Z6R x r N hN hB)
def Z4x : Yz := fun args h K => ZI none h true 20 args fun a => match a with
 | [.vints .u8 xs n] => Zj (xs.length = n ∧ n < 90000000000000) (K (.ret (.nslice ⟨h.next, 0, 0, 0, 0⟩ 1 n n)) ⟨h.next + 1, (h.next, .ints .u8 xs) :: h.bs⟩)
 | _ => False
theorem Z3O (args : List AV) (h : Z5) (K : KO) (hl : Z4x args h K) : Zc PP 119 args h K := by
 refine Zx.fsumm (d := 20) (Zq _ _ _ _ _ hl fun a ha => ?_)
 split at ha
 ·obtain ⟨⟨h1, h2⟩, hK⟩ := Z7 ha
  exact ⟨_, _, _, _, Z2I _ _ h1 h2, rfl, ⟨Nat.one_pos, .ints _ _, trivial⟩, hK⟩
 ·exact ha.elim
end Go.Tk
end
section
namespace Go.Tk
open IntKind (i64 u8 u32 u64 wrap)
theorem Spec.conv {P : Program} {f : FuncId} {args args₀ : List AV} {h0 : Z5} {o : Out} {nx : Nat} {bs : List (Nat × Blk)} (h : Spec P f args₀ h0 o nx bs) (hc : ∀ E r, Zs E args r → Zs E args₀ r) : Spec P f args h0 o nx bs :=
 fun E w rs he hr => h E w rs he (hc E rs hr)
noncomputable def Z6U (W : Int → List Int) : Zf := G0.withF 118 (Z9Z W)
theorem Q9 : (Z6U ZE).Ok := Zf.withF_ok Zv Z8i
theorem Z8j (xs hh ys : List Int) (N L lo : Nat) (hN : xs.length = N) (hB : N < 90000000000000) (hq : hh.length = 32) (hy : ys = xs ++ hh) (hL : L = ys.length) :
  evF G0 20 69 [.ptr (some ⟨0, 0, 0, 0, 0⟩), .vrows 32 1 (fun _ => [.arr .u8 32 hh]) 1] ⟨2, [(0, .flat [.nslice ⟨1, 0, 0, 0, 0⟩ 1 N lo, .bool true]), (1, .ints .u8 xs)]⟩ (YK 2 (.ret (.int .i64 0)) 3 [(0, .flat [.nslice ⟨2, 0, 0, 0, 0⟩ 1 L L, .bool true]), (2, .ints .u8 ys)]) := by
 refine @Eq.mpr _ (let q1 := xs ++ hh;
 let q2 := List.length q1;
 Z0 (decide (u8 = u8 ∧ List.length hh = 32)) (Z0 (decide (u8 = u8 ∧ List.length xs = N)) (Z0 (decide (q2 * 1 ≤ 140737488355328)) (Z0 (decide (q2 = L)) (Z0 (decide (L ≤ q2)) (q1 = ys ∧ True) False) False) False) False) False) (by kernel_rfl) ?_
 conv => zeta
 try simp only [Zk]
 try simp only [Zn]
 try simp only [Zl]
 try simp only [Zo]
 try simp only [Zp]
 try simp only [Zi]
 try simp only [Int.toNat_natCast, Nat.zero_add, true_and, and_true, Nat.le_refl]
 subst hN hy hL
 refine ⟨hq, rfl, ?_⟩
 simp only [List.length_append]
 and_intros <;> first | trivial | omega
end Go.Tk
end
section
namespace Go.Tk
open IntKind (i64 u8 u32 u64 wrap)
end Go.Tk
end
section
namespace Go.Tk
open IntKind (i64 u8 u32 u64 wrap)
end Go.Tk
end
section
namespace Go.Tk
open IntKind (i64 u8 u32 u64 wrap)
end Go.Tk
end
section
namespace Go.Tk
open IntKind (i64 u8 u32 u64 wrap)
end Go.Tk
end
section
namespace Go.Tk
open IntKind (i64 u8 u32 u64 wrap)
end Go.Tk
end
section
namespace Go.Tk
open IntKind (i64 u8 u32 u64 wrap)
mutual
/-- Without names; views may be. -/
def AV.vplain : AV → Bool
 | .top | .bool _ | .int _ _ | .str _ | .ptr none | .eslice | .fslice | .nilslice | .map none | .nilFunc | .nilIface | .arr _ _ _ => true
 | .vints _ _ _ | .vrows _ _ _ _ | .pview _ _ => true
 | .agg cs => Xi cs
 | .tuple cs => Xi cs
 | .iface _ v => v.vplain
 | _ => false
def Xi : List AV → Bool
 | [] => true
 | v :: r => v.vplain && Xi r
end
mutual
theorem Z8.vplain {E E' : Env} (hi : ∀ a c, E.imm a c → E'.imm a c) : ∀ (v : AV) (r : Value), v.vplain = true → Z8 E v r → Z8 E' v r
 | .top, r, _, _ => .top r
 | .bool b, r, _, h => h.plain rfl
 | .int k n, r, _, h => h.plain rfl
 | .str s, r, _, h => h.plain rfl
 | .ptr none, r, _, h => h.plain rfl
 | .eslice, r, _, h => h.plain rfl
 | .fslice, r, _, h => h.plain rfl
 | .nilslice, r, _, h => h.plain rfl
 | .map none, r, _, h => h.plain rfl
 | .nilFunc, r, _, h => h.plain rfl
 | .nilIface, r, _, h => h.plain rfl
 | .arr k n xs, r, _, h => h.plain rfl
 | .ptr (some p), r, hp, _ => by simp [AV.vplain] at hp
 | .nslice p a b c, r, hp, _ => by simp [AV.vplain] at hp
 | .map (some x), r, hp, _ => by simp [AV.vplain] at hp
 | .func a b c, r, hp, _ => by simp [AV.vplain] at hp
 | .yield x, r, hp, _ => by simp [AV.vplain] at hp
 | .pview cs inn, r, _, h => by
  cases h with
  | pview cs inn a vs hc hq => exact .pview cs inn a vs (Zg.mono (⟨fun _ _ h => by simp [Env.views] at h, hi⟩ : E.views.le E'.views) hc) (fun j c h => hi _ _ (hq j c h))
 | .vints k xs len, r, _, h => by
  cases h with
  | vintsNil k xs len h1 h2 => exact .vintsNil k xs len h1 h2
  | vints k xs len a cap h1 h2 hq => exact .vints k xs len a cap h1 h2 (fun i h => hi _ _ (hq i h))
 | .vrows esz n f len, r, _, h => by
  cases h with
  | vrowsNil esz n f len h1 h2 => exact .vrowsNil esz n f len h1 h2
  | vrows esz n f len a cap g h1 h2 hc hl hq => exact .vrows esz n f len a cap g h1 h2 (fun i h => Zg.mono (⟨fun _ _ h => by simp [Env.views] at h, hi⟩ : E.views.le E'.views) (hc i h)) hl (fun i j c h h' => hi _ _ (hq i j c h h'))
 | .iface t v, r, hp, h => by
  cases h with
  | iface t v x hx => exact .iface t v x (Z8.vplain hi v x (by simpa [AV.vplain] using hp) hx)
 | .agg cs, r, hp, h => by
  cases h with
  | agg cs vs hc => exact .agg cs vs (Zg.vplain hi cs vs (by simpa [AV.vplain] using hp) hc)
 | .tuple cs, r, hp, h => by
  cases h with
  | tuple _ rs hc => exact .tuple _ rs (Zs.vplain hi cs rs (by simpa [AV.vplain] using hp) hc)
theorem Zg.vplain {E E' : Env} (hi : ∀ a c, E.imm a c → E'.imm a c) : ∀ (l : List AV) (r : List Value), Xi l = true → Zg E l r → Zg E' l r
 | [], r, _, h => by cases h; exact .nil
 | v :: l, r, hp, h => by
  simp only [Xi, Bool.and_eq_true] at hp
  cases h with
  | one v c vs cs h0 h1 hv t => exact .one v c _ cs h0 h1 (Z8.vplain hi v c hp.1 hv) (Zg.vplain hi l cs hp.2 t)
  | arr k n xs vs cs t => exact .arr k n xs _ cs (Zg.vplain hi l cs hp.2 t)
theorem Zs.vplain {E E' : Env} (hi : ∀ a c, E.imm a c → E'.imm a c) : ∀ (l : List AV) (r : List Value), Xi l = true → Zs E l r → Zs E' l r
 | [], r, _, h => by cases h; exact .nil
 | v :: l, r, hp, h => by
  simp only [Xi, Bool.and_eq_true] at hp
  cases h with
  | cons v c vs cs hv t => exact .cons v c _ cs (Z8.vplain hi v c hp.1 hv) (Zs.vplain hi l cs hp.2 t)
end
def Yn (R : AV → Prop) : KO := fun o _ => match o with
 | .ret u => (match u.vplain with | true => R u | false => False)
 | .panic _ => False
theorem Z3P {P : Program} {f : FuncId} {args : List AV} {h : Z5} {R : AV → Prop} {K : AV → Prop} (hp : Xi args = true) (hc : Zc P f args ⟨0, []⟩ (Yn R)) (hK : ∀ u, R u → K u) :
  Zc P f args h fun o h' => ∃ v, o = .ret v ∧ h' = h ∧ K v := by
 intro E w rs he hr
 have hemb : Emb E.views ⟨0, []⟩ w :=
  ⟨fun x _ => rfl, fun x B h => by simp [Z5.get, Zw] at h, fun x B h => by simp [Z5.get, Zw] at h, fun x y B B' b N N' h => by simp [Z5.get, Zw] at h, he.imm, fun a c x B N _ h => by simp [Z5.get, Zw] at h⟩
 refine (hc E.views w rs hemb (Zs.vplain (E := E) (E' := E.views) (fun _ _ h => h) _ _ hp hr)).mono ?_
 rintro e w' ⟨E₁, o, h', hK0, hev, hor⟩
 cases hor with
 | panic u r hr => exact hK0.elim
 | ret u r hr =>
  unfold Yn at hK0
  simp only at hK0
  split at hK0
  ·rename_i hu
   have hkeep : ∀ b, b < w.heap.size → w'.heap[b]? = w.heap[b]? := fun b hb => hev.keep b hb (fun ⟨x, B, N, hx, _⟩ => by simp [Z5.get, Zw] at hx)
   have hemb' : Emb E h w' := by
    refine ⟨he.fresh, he.lt, fun x B hx => (he.own x B hx).congr fun b N hb => hkeep b ((he.own x B hx).lt hb), he.disj, fun a c hi => ?_, he.sep⟩
    have hcc := he.imm a c hi
    have hlt : a.block < w.heap.size := by
     rcases Nat.lt_or_ge a.block w.heap.size with hl | hg
     ·exact hl
     ·simp [World.cell?, Array.getElem?_eq_none hg] at hcc
    simpa [World.cell?, hkeep _ hlt] using hcc
   exact ⟨E, .ret u, h, ⟨u, rfl, rfl, hK u hK0⟩, ⟨.refl E, hemb', hev.size, hev.os, hev.tape, hev.output, fun b hb _ => hkeep b hb, fun b ho => .inl ho, fun _ _ h => h⟩, .ret _ _ (Z8.vplain (E := E₁) (E' := E) (fun a c hi => hev.imm a c hi) _ _ hu hr)⟩
  ·exact hK0.elim
theorem Ys {G : Zf} (hG : G.Ok) {n : Nat} {f : FuncId} {args : List AV} {h : Z5} {R : AV → Prop} {K : AV → Prop} (hp : Xi args = true) (hc : evF G n f args ⟨0, []⟩ (Yn R)) (hK : ∀ u, R u → K u) :
  Zc G.P f args h fun o h' => ∃ v, o = .ret v ∧ h' = h ∧ K v := Z3P hp (Uk hG hc) hK
end Go.Tk
end
section
namespace Go.Tk
open IntKind (i64 u8 u32 u64 wrap)
end Go.Tk
end
section
namespace Go.Tk
open IntKind (i64 u8 u32 u64 wrap)
inductive Ty where
 | bool
 | int (k : IntKind)
 | str
 | arr (k : IntKind) (n : Nat)
 | ints (k : IntKind)
 | rows (esz : Nat) (ts : List Ty)
def Z6V (P : Program) (r : TypeId → Option (List Ty)) (sz : Nat) : Nat → List Field → Option (List Ty)
 | o, [] => if o = sz then some [] else none
 | o, f :: fs => if f.offset = o then (r f.type).bind fun a => (Z6V P r sz (o + P.cellsOf f.type) fs).bind fun b => some (a ++ b) else none
def UX (P : Program) : Nat → TypeId → Option (List Ty)
 | 0, _ => none
 | m + 1, t => match P.underlying t with
  | some .bool => some [.bool]
  | some (.int k) => some [.int k]
  | some .string => some [.str]
  | some (.array n e) => match P.underlying e with
   | some (.int k) => if P.cellsOf t = n ∧ P.cellsOf e = 1 then some [.arr k n] else none
   | _ => (UX P m e).bind fun ts => if P.cellsOf t = n * P.cellsOf e then some (List.replicate n ts).flatten else none
  | some (.slice e) => match P.underlying e with
   | some (.int k) => if P.cellsOf e = 1 then some [.ints k] else none
   | _ => (UX P m e).bind fun ts => some [.rows (P.cellsOf e) ts]
  | some (.struct fs) => Z6V P (UX P m) (P.cellsOf t) 0 fs.toList
  | _ => none
mutual
inductive UN : Ty → AV → Prop
 | bool (b : Bool) : UN .bool (.bool b)
 | int (k : IntKind) (n : Int) (h : (Lit.int k n).wf = true) : UN (.int k) (.int k n)
 | str (s : ByteArray) (h : s.size ≤ maxLen) : UN .str (.str s)
 | arr (k : IntKind) (n : Nat) (xs : List Int) (h : xs.length = n) (hw : ∀ i, i < n → (Lit.int k (xs.getD i 0)).wf = true) : UN (.arr k n) (.arr k n xs)
 | ints (k : IntKind) (xs : List Int) (n : Nat) (h : xs.length = n) (hm : n ≤ maxLen) (hw : ∀ i, i < n → (Lit.int k (xs.getD i 0)).wf = true) : UN (.ints k) (.vints k xs n)
 | rows (esz : Nat) (ts : List Ty) (n : Nat) (f : Nat → List AV) (hm : n ≤ maxLen) (h : ∀ i, i < n → Fits ts (f i)) : UN (.rows esz ts) (.vrows esz n f n)
inductive Fits : List Ty → List AV → Prop
 | nil : Fits [] []
 | cons (t : Ty) (a : AV) (ts : List Ty) (vz : List AV) (h : UN t a) (r : Fits ts vz) : Fits (t :: ts) (a :: vz)
end
theorem Fits.append : ∀ {ts wz : List Ty} {vz bs : List AV}, Fits ts vz → Fits wz bs → Fits (ts ++ wz) (vz ++ bs)
 | _, _, _, _, .nil, h => h
 | _, _, _, _, .cons t a ts vz h r, k => .cons t a _ _ h (Fits.append r k)
def tE (w : World) : Env := ⟨fun _ => none, fun a c => w.cell? a = some c⟩
section
variable {H : Type} {enc : TypeId × Value → H} {P : Program} {w : World} {sp : Nat → Bool} {held : Bool}
theorem Vq {k : IntKind} {n : Nat} {cs : List Value} (hl : cs.length = n) (h : ∀ i, i < n → ∃ z, cs[i]? = some (.int k z) ∧ (Lit.int k z).wf = true) :
  ∃ xs : List Int, xs.length = n ∧ (∀ i, i < n → (Lit.int k (xs.getD i 0)).wf = true) ∧ ∀ i, i < n → cs[i]? = some (.int k (xs.getD i 0)) := by
 refine ⟨cs.map fun v => match v with | .int _ z => z | _ => 0, by simp [hl], fun i hi => ?_, fun i hi => ?_⟩
 ·obtain ⟨z, h1, h2⟩ := h i hi
  rw [List.getD_eq_getElem?_getD, List.getElem?_map, h1]
  exact h2
 ·obtain ⟨z, h1, h2⟩ := h i hi
  rw [List.getD_eq_getElem?_getD, List.getElem?_map, h1]
  rfl
theorem Z8k {α β : Type} {n : Nat} {p : Nat → α → β → Prop} [Inhabited α] [Inhabited β] (h : ∀ i, i < n → ∃ a b, p i a b) : ∃ (f : Nat → α) (g : Nat → β), ∀ i, i < n → p i (f i) (g i) :=
 ⟨fun i => if hi : i < n then Classical.choose (h i hi) else default, fun i => if hi : i < n then Classical.choose (Classical.choose_spec (h i hi)) else default, fun i hi => by
  simp only [hi, dite_true]
  exact Classical.choose_spec (Classical.choose_spec (h i hi))⟩
theorem Qa : ∀ (m : Nat) (t : TypeId) (ts : List Ty), UX P m t = some ts → ∀ (fuel : Nat) (cs : List Value) (x : DataW H × List MemPlace), DataW.trod enc P w 0 sp held fuel t cs = some x → ∃ vz, Fits ts vz ∧ Zg (tE w) vz cs
 | 0, _, _, ht => by simp [UX] at ht
 | m + 1, t, ts, ht => by
  intro fuel cs x hx
  unfold UX at ht
  split at ht
  ·rename_i hu
   cases ht
   obtain ⟨b, rfl, _⟩ := DataW.trod_bool hu hx
   exact ⟨[.bool b], .cons _ _ _ _ (.bool b) .nil, .one _ _ _ _ rfl rfl (.bool b) .nil⟩
  ·rename_i k hu
   cases ht
   obtain ⟨n, rfl, _, hw⟩ := DataW.trod_int hu hx
   exact ⟨[.int k n], .cons _ _ _ _ (.int k n hw) .nil, .one _ _ _ _ rfl rfl (.int k n) .nil⟩
  ·rename_i hu
   cases ht
   obtain ⟨s, rfl, _, hw⟩ := DataW.trod_string hu hx
   exact ⟨[.str s], .cons _ _ _ _ (.str s hw) .nil, .one _ _ _ _ rfl rfl (.str s) .nil⟩
  ·rename_i n e hu
   split at ht
   ·rename_i k he
    split at ht
    ·rename_i hc
     obtain ⟨hc, h1⟩ := hc
     cases ht
     obtain ⟨xs, q, rfl, rfl, hl, hn, hi⟩ := DataW.trod_array hu hx
     rw [hc] at hl
     obtain ⟨zs, z1, z2, z3⟩ := Vq (k := k) hl fun i hlt => by
      have := hi i hlt
      rw [List.getElem?_eq_getElem (by omega), h1] at this
      obtain ⟨z, e1, _, e2⟩ := DataW.trod_int he this
      refine ⟨z, ?_, e2⟩
      rw [Nat.mul_one] at e1
      have := congrArg (fun l => l[0]?) e1
      simpa using this
     refine ⟨[.arr k n zs], .cons _ _ _ _ (.arr k n zs z1 z2) .nil, ?_⟩
     have : cs = intCells k n zs ++ [] := by
      rw [List.append_nil]
      refine List.ext_getElem? fun i => ?_
      by_cases hlt : i < n
      ·rw [z3 i hlt]
       simp [intCells, hlt]
      ·rw [List.getElem?_eq_none (by omega), List.getElem?_eq_none (by rw [Z4]; omega)]
     rw [this]
     exact .arr _ _ _ _ _ .nil
    ·cases ht
   ·obtain ⟨es, e1, e2⟩ := Option.bind_eq_some_iff.1 ht
    split at e2
    ·rename_i hc
     cases e2
     obtain ⟨xs, q, rfl, rfl, hl, hn, hi⟩ := DataW.trod_array hu hx
     rw [hc] at hl
     have key : ∀ j, j ≤ n → ∃ vz, Fits (List.replicate j es).flatten vz ∧ Zg (tE w) vz (cs.take (j * P.cellsOf e)) := by
      intro j
      induction j with
      | zero => intro _; exact ⟨[], .nil, by simp; exact .nil⟩
      | succ j ih =>
       intro hj
       obtain ⟨vz, f1, f2⟩ := ih (by omega)
       have := hi j (by omega)
       rw [List.getElem?_eq_getElem (by omega)] at this
       obtain ⟨bs, p1, p2⟩ := Qa m _ _ e1 _ _ _ this
       refine ⟨vz ++ bs, ?_, ?_⟩
       ·rw [List.replicate_succ', List.flatten_append, List.flatten_singleton]
        exact f1.append p1
       ·rw [Nat.succ_mul, List.take_add]
        exact f2.append p2
     obtain ⟨vz, f1, f2⟩ := key n (Nat.le_refl _)
     rw [List.take_of_length_le (by omega)] at f2
     exact ⟨vz, f1, f2⟩
    ·cases e2
  ·rename_i e hu
   split at ht
   ·rename_i k he
    split at ht
    ·rename_i hc
     cases ht
     rcases DataW.trod_slice hu hx with ⟨rfl, _⟩ | ⟨a, len, cap, elems, rest, n, rfl, rfl, _, _, hl, hm, hlen, hi, _, _⟩
     ·exact ⟨[.vints k [] 0], .cons _ _ _ _ (.ints k [] 0 rfl (Nat.zero_le _) fun i hi => absurd hi (Nat.not_lt_zero i)) .nil, .one _ _ _ _ rfl rfl (.vintsNil _ _ _ rfl rfl) .nil⟩
     ·obtain ⟨zs, z1, z2, z3⟩ := Vq (k := k) (n := len) (cs := (List.range len).map fun i => (w.cell? (a.add i)).getD undef) (by simp) fun i hlt => by
       have := hi i hlt
       rw [List.getElem?_eq_getElem (by omega), hc, Nat.mul_one] at this
       obtain ⟨cs', h1, h2⟩ := Option.bind_eq_some_iff.1 this
       obtain ⟨z, rfl, _, e2⟩ := DataW.trod_int he h2
       refine ⟨z, ?_, e2⟩
       simp [hlt, Go.ChangeShapes.cell_of_cells?_one h1]
      refine ⟨[.vints k zs len], .cons _ _ _ _ (.ints k zs len z1 (by omega) z2) .nil, .one _ _ _ _ rfl rfl (.vints k zs len a cap (by omega) (by omega) fun i hlt => ?_) .nil⟩
      rw [z1] at hlt
      have := hi i hlt
      rw [List.getElem?_eq_getElem (by omega), hc, Nat.mul_one] at this
      obtain ⟨cs', h1, h2⟩ := Option.bind_eq_some_iff.1 this
      obtain ⟨z, rfl, _, e2⟩ := DataW.trod_int he h2
      have h3 := z3 i hlt
      have h4 := Go.ChangeShapes.cell_of_cells?_one h1
      simp [hlt, h4] at h3
      show w.cell? (a.add i) = _
      rw [h4, h3, List.getD_eq_getElem?_getD]
    ·cases ht
   ·obtain ⟨es, h1, h2⟩ := Option.bind_eq_some_iff.1 ht
    cases h2
    rcases DataW.trod_slice hu hx with ⟨rfl, _⟩ | ⟨a, len, cap, elems, rest, n, rfl, rfl, _, _, hl, hm, hlen, hi, _, _⟩
    ·exact ⟨[.vrows (P.cellsOf e) 0 (fun _ => []) 0], .cons _ _ _ _ (.rows _ _ 0 _ (Nat.zero_le _) fun i hi => absurd hi (Nat.not_lt_zero i)) .nil, .one _ _ _ _ rfl rfl (.vrowsNil _ _ _ _ rfl rfl) .nil⟩
    ·obtain ⟨f, g, hfg⟩ := Z8k (n := len) (p := fun i (vz : List AV) (vs : List Value) => Fits es vz ∧ Zg (tE w) vz vs ∧ w.cells? 0 (a.add (i * P.cellsOf e)) (P.cellsOf e) = some vs) fun i hlt => by
      have := hi i hlt
      rw [List.getElem?_eq_getElem (by omega)] at this
      obtain ⟨cs', k1, k2⟩ := Option.bind_eq_some_iff.1 this
      obtain ⟨vz, f1, f2⟩ := Qa m _ _ h1 _ _ _ k2
      exact ⟨vz, cs', f1, f2, k1⟩
     refine ⟨[.vrows (P.cellsOf e) len f len], .cons _ _ _ _ (.rows _ _ len f (by omega) fun i hlt => (hfg i hlt).1) .nil, .one _ _ _ _ rfl rfl (.vrows _ _ _ _ a cap g (Nat.le_refl _) hl (fun i hlt => (hfg i hlt).2.1) (fun i hlt => (World.cells?_some (hfg i hlt).2.2).2.1) fun i j c hlt hj => ?_) .nil⟩
     obtain ⟨_, hl', hc'⟩ := World.cells?_some (hfg i hlt).2.2
     have hj' : j < P.cellsOf e := by
      rcases Nat.lt_or_ge j (P.cellsOf e) with h | h
      ·exact h
      ·rw [List.getElem?_eq_none (by omega)] at hj; cases hj
     have := hc' j hj'
     rw [hj] at this
     show w.cell? (a.add (i * P.cellsOf e + j)) = some c
     rw [← this]
     rw [Addr.add_add]
  ·rename_i fs hu
   obtain ⟨xs, n, rfl, rfl, hl, hn, hf⟩ := DataW.trod_struct hu hx
   have key : ∀ (l : List Field) (o : Nat) (ts : List Ty) (i0 : Nat), Z6V P (UX P m) (P.cellsOf t) o l = some ts → (∀ i f, l[i]? = some f → fs[i0 + i]? = some f) → ∃ vz, Fits ts vz ∧ Zg (tE w) vz (cs.drop o) := by
    intro l
    induction l with
    | nil =>
     intro o ts i0 h _
     unfold Z6V at h
     split at h
     ·rename_i ho
      cases h
      exact ⟨[], .nil, by rw [List.drop_eq_nil_of_le (by omega)]; exact .nil⟩
     ·cases h
    | cons f l ih =>
     intro o ts i0 h hl'
     unfold Z6V at h
     split at h
     ·rename_i ho
      obtain ⟨a, h1, h2⟩ := Option.bind_eq_some_iff.1 h
      obtain ⟨b, h3, h4⟩ := Option.bind_eq_some_iff.1 h2
      cases h4
      have h0 : fs[i0]? = some f := hl' 0 f rfl
      have hlt : i0 < fs.size := by
       rcases Nat.lt_or_ge i0 fs.size with h | h
       ·exact h
       ·rw [Array.getElem?_eq_none (by omega)] at h0; cases h0
      have k := hf i0 f h0
      rw [List.getElem?_eq_getElem (by omega), ho] at k
      obtain ⟨vz, p1, p2⟩ := Qa m _ _ h1 _ _ _ k
      obtain ⟨bs, q1, q2⟩ := ih (o + P.cellsOf f.type) b (i0 + 1) h3 fun i g hg => by
       have := hl' (i + 1) g hg
       rw [← this]; congr 1; omega
      refine ⟨vz ++ bs, p1.append q1, ?_⟩
      have e : cs.drop o = (cs.drop o).take (P.cellsOf f.type) ++ cs.drop (o + P.cellsOf f.type) := by
       rw [← List.drop_drop, List.take_append_drop]
      rw [e]
      exact p2.append q2
     ·cases h
   obtain ⟨vz, h1, h2⟩ := key fs.toList 0 ts 0 ht fun i f h => by simpa using h
   exact ⟨vz, h1, by simpa using h2⟩
  ·cases ht
def isAgg (P : Program) (t : TypeId) : Bool := match P.underlying t with
 | some (.struct _) | some (.array _ _) => true
 | _ => false
inductive Z14 : Bool → List Ty → AV → Prop
 | agg (ts : List Ty) (vz : List AV) (h : Fits ts vz) : Z14 true ts (.agg vz)
 | one (t : Ty) (a : AV) (h : UN t a) : Z14 false [t] a
theorem Z6W {m : Nat} {t : TypeId} {ts : List Ty} (ht : UX P m t = some ts) (hg : isAgg P t = false) {v : Value} {r : Reach} {b : Nat} (hv : Value.okWide P w r b t v) :
  v.cells.toList = [v] ∧ ∃ τ, ts = [τ] ∧ ∀ k n, τ ≠ .arr k n := by
 cases m with
 | zero => simp [UX] at ht
 | succ m =>
  unfold UX at ht
  unfold isAgg at hg
  split at ht
  ·rename_i hu; cases ht; obtain ⟨b, rfl⟩ := Go.WideShapes.okWide_bool hu hv; exact ⟨rfl, _, rfl, fun _ _ h => by cases h⟩
  ·rename_i hu; cases ht; obtain ⟨b, rfl⟩ := Go.WideShapes.okWide_int hu hv; exact ⟨rfl, _, rfl, fun _ _ h => by cases h⟩
  ·rename_i hu; cases ht; obtain ⟨b, rfl⟩ := Go.WideShapes.okWide_string hu hv; exact ⟨rfl, _, rfl, fun _ _ h => by cases h⟩
  ·rename_i hu; simp [hu] at hg
  ·rename_i hu
   obtain ⟨a, l, c, rfl⟩ := Go.WideShapes.okWide_slice hu hv
   split at ht
   ·split at ht
    ·cases ht; exact ⟨rfl, _, rfl, fun _ _ h => by cases h⟩
    ·cases ht
   ·obtain ⟨es, h1, h2⟩ := Option.bind_eq_some_iff.1 ht
    cases h2; exact ⟨rfl, _, rfl, fun _ _ h => by cases h⟩
  ·rename_i hu; simp [hu] at hg
  ·cases ht
theorem Z6X {m : Nat} {t : TypeId} {ts : List Ty} {g : Bool} (ht : UX P m t = some ts) (hg : isAgg P t = g) {v : Value} {r : Reach} {b : Nat} (hv : Value.okWide P w r b t v) {d : DataW H} {ps : List MemPlace} (h : DataW.Trod enc P w 0 sp held t v d ps) :
  ∃ a, Z14 g ts a ∧ Z8 (tE w) a v := by
 obtain ⟨fuel, hf⟩ := h
 obtain ⟨vz, f1, f2⟩ := Qa m _ _ ht _ _ _ hf
 cases g with
 | true =>
  have : ∃ cs, v = .agg cs := by
   unfold isAgg at hg
   unfold Value.okWide at hv
   split at hg
   ·rename_i hu; simp only [hu] at hv; obtain ⟨cs, rfl, _⟩ := hv; exact ⟨cs, rfl⟩
   ·rename_i hu; simp only [hu] at hv; obtain ⟨cs, rfl, _⟩ := hv; exact ⟨cs, rfl⟩
   ·cases hg
  obtain ⟨cs, rfl⟩ := this
  refine ⟨.agg vz, .agg _ _ f1, ?_⟩
  have : cs = (Value.cells (.agg cs)).toList.toArray := by simp [Value.cells]
  rw [this]
  exact .agg _ _ f2
 | false =>
  obtain ⟨h1, τ, rfl, h2⟩ := Z6W ht hg hv
  rw [h1] at f2
  cases f1 with
  | cons _ a _ vz f r =>
   cases r
   generalize hL : [v] = L at f2
   cases f2 with
   | one _ _ _ _ h0 h1 h t => cases hL; exact ⟨_, .one _ _ f, h⟩
   | arr k n xs _ cs t => cases f; exact absurd rfl (h2 _ _)
end
end Go.Tk
end
section
namespace Go.Tk
open IntKind (i64 u8 u32 u64 wrap)
open Go.ChangeShapes Go.WideShapes Go.RowKit
theorem Za0 (w : World) : Emb (tE w) ⟨0, []⟩ w where
 fresh := fun _ _ => rfl
 lt := fun x B h => by simp [Z5.get, Zw] at h
 own := fun x B h => by simp [Z5.get, Zw] at h
 disj := fun x y B B' b N N' h => absurd h (by simp [Z5.get, Zw])
 imm := fun _ _ h => h
 sep := fun a c x B N _ h => absurd h (by simp [Z5.get, Zw])
theorem Zc.topT {P : Program} {f : FuncId} {args : List AV} (h : Zc P f args ⟨0, []⟩ fun o h' => ∃ v, o = .ret v ∧ h' = ⟨0, []⟩ ∧ v = .bool true) {w : World} {rs : List Value} (hl : Zs (tE w) args rs) :
  Calls P f rs.toArray w fun e w' => e = .returned (.bool true) ∧ Go.RowKit.Below w.heap.size w w' := by
 refine (h (tE w) w rs (Za0 w) hl).mono ?_
 rintro e w' ⟨E', o, h', ⟨v, rfl, rfl, hv⟩, hev, hor⟩
 obtain rfl := hv
 cases hor with
 | ret v r hr =>
  cases hr
  refine ⟨rfl, hev.os, hev.tape, hev.output.1, hev.size, fun k hk => hev.keep k hk ?_⟩
  rintro ⟨x, B, N, hx, _⟩
  exact absurd hx (by simp [Z5.get, Zw])
def Z3Q (P : Program) (m : Nat) : List TypeId → Option (List (Bool × List Ty))
 | [] => some []
 | t :: r => (UX P m t).bind fun a => (Z3Q P m r).bind fun b => some ((isAgg P t, a) :: b)
inductive Z15 : List (Bool × List Ty) → List AV → Prop
 | nil : Z15 [] []
 | cons (g : Bool) (ts : List Ty) (a : AV) (r : List (Bool × List Ty)) (vz : List AV) (h : Z14 g ts a) (k : Z15 r vz) : Z15 ((g, ts) :: r) (a :: vz)
section
variable {H : Type} {enc : TypeId × Value → H} {P : Program} {w : World}
theorem Z16 {m : Nat} {r : Reach} {b : Nat} : ∀ {ts : List TypeId} {τs : List (Bool × List Ty)} {vs : List Value} {ds : List (DataW H)} {ps : List MemPlace}, Z3Q P m ts = some τs → (∀ (j : Nat) t v, ts[j]? = some t → vs[j]? = some v → Value.okWide P w r b t v) →
  DataW.TrodAll enc P w 0 (fun _ => true) true ts vs ds ps → ∃ vz, Z15 τs vz ∧ Zs (tE w) vz vs
 | [], τs, vs, ds, ps, ha, _, h => by
  cases ha
  obtain ⟨rfl, _, _⟩ := trodAll_nil h
  exact ⟨[], .nil, .nil⟩
 | t :: ts, τs, vs, ds, ps, ha, hv, h => by
  obtain ⟨a, h1, h2⟩ := Option.bind_eq_some_iff.1 ha
  obtain ⟨c, h3, h4⟩ := Option.bind_eq_some_iff.1 h2
  cases h4
  obtain ⟨v, vs', d, ds', p, q, rfl, rfl, rfl, k1, k2⟩ := trodAll_cons h
  obtain ⟨x, f1, f2⟩ := Z6X h1 rfl (hv 0 t v rfl rfl) k1
  obtain ⟨vz, g1, g2⟩ := Z16 h3 (fun j t' v' e1 e2 => hv (j + 1) t' v' e1 e2) k2
  exact ⟨x :: vz, .cons _ _ _ _ _ f1 g1, .cons _ _ _ _ f2 g2⟩
theorem UO {sp : Nat → Bool} {held : Bool} : ∀ {ts : List TypeId} {vs : List Value} {ds : List (DataW H)} {ps : List MemPlace}, DataW.TrodAll enc P w 0 sp held ts vs ds ps → ds.length = ts.length
 | [], _, _, _, h => by obtain ⟨_, rfl, _⟩ := trodAll_nil h; rfl
 | t :: ts, _, _, _, h => by
  obtain ⟨v, vs', d, ds', p, q, rfl, rfl, rfl, k1, k2⟩ := trodAll_cons h
  simp [UO k2]
theorem Z17 {W' : World} (laid : laidOutB P = true) (hb : Below w.heap.size w W') : ∀ {ts : List TypeId} {vs : List Value} {ds : List (DataW H)} {ps : List MemPlace}, ts.all (fun t => P.readableRec t && decide (t < P.types.size)) = true →
  DataW.TrodAll enc P w 0 (fun _ => true) true ts vs ds ps → DataW.TrodAll enc P W' 0 (fun b => decide (b < w.heap.size)) true ts vs ds ps
 | [], _, _, _, _, h => by obtain ⟨rfl, rfl, rfl⟩ := trodAll_nil h; exact trodAll_mk0
 | t :: ts, _, _, _, hr, h => by
  obtain ⟨v, vs', d, ds', p, q, rfl, rfl, rfl, k1, k2⟩ := trodAll_cons h
  simp only [List.all_cons, Bool.and_eq_true, decide_eq_true_eq] at hr
  have lt : ∀ x ∈ p, x.block < w.heap.size := by obtain ⟨m, hm⟩ := k1; exact DataW.trod_lt m _ _ _ hm
  exact trodAll_cons_mk (Below.trod laid hr.1.1 hr.1.2 k1 hb lt) (Z17 laid hb hr.2 k2)
end
theorem lifted_gen {H : Type} {enc : TypeId × Value → H} {C : Checked} {os : Os} {f : FuncId} {fn : Func} {s : ChangeSpec} {conds : List PathCond} {tb : TypeId} {m : Nat} {τs : List (Bool × List Ty)}
  (own : ownKnob C.prog.godebug = none) (laid : laidOutB C.prog = true) (started : os.Started) (noInit : C.prog.inits.idxOf? f = none) (hfn : C.prog.funcs[f]? = some fn)
  (witness : ∃ (w : World) (tape : Tape) (i : Input), w.os = os ∧ (w.forCall tape i).Shaped C.prog ∧ i.vars = [] ∧ Input.okWide C.prog (w.forCall tape i) .any w.heap.size f i ∧
   s.pre6 enc C.prog fn conds false (w.forCall tape i).memory i.args ∧ ({} : Assume).holds C.prog (lone (Frame.enter C.prog f i.args .normal) [] (w.forCall tape i)))
  (hvars : s.vars = []) (hr : fn.resultTypes = #[tb]) (hb : C.prog.underlying tb = some .bool) (hread : fn.params.toList.all (fun t => C.prog.readableRec t && decide (t < C.prog.types.size)) = true) (hτ : Z3Q C.prog m fn.params.toList = some τs)
  (hs : ∀ ds : List (DataW H), ds.length = fn.params.toList.length → s.fn H ds = { results := [.lit (.bool true)], args := ds })
  (walk : ∀ vz, Z15 τs vz → Zc C.prog f vz ⟨0, []⟩ fun o h' => ∃ v, o = .ret v ∧ h' = ⟨0, []⟩ ∧ v = .bool true) :
  ReturnsInHanded {} C os f .any (s.pre6 enc C.prog fn conds false) (s.post enc C.prog fn false true false false) := by
 refine returnsInHanded_of_change own started noInit hfn witness ?_
 intro W base args ds gs before hval hW _ _
 have hW' := hW
 obtain ⟨p, q, hA, hV, rfl, hfz, hnd⟩ := hW
 have hV0 := hV
 rw [hvars] at hV
 obtain ⟨rfl, rfl⟩ := trodVars_none hV
 obtain ⟨vz, f1, f2⟩ := Z16 hτ (fun j t v e1 e2 => hval j t v (by simpa using e1) (by simpa using e2)) hA
 have e0 : args = args.toList.toArray := by simp
 have key := (walk vz f1).topT f2
 rw [← e0] at key
 refine key.mono fun e W' ⟨he, bel⟩ => ?_
 subst he
 have hfn' := hs ds (UO hA)
 refine ⟨_, rfl, ds, [], _, [], p, [], hW', ?_, ?_, ?_, bel.frame _, fun h => by cases h⟩
 ·rw [List.append_nil, hfn', hr]
  exact trodAll_mk1 (shut_bool hb _)
 ·rw [List.append_nil, hfn']
  exact Z17 laid bel hread hA
 ·rw [List.append_nil, hfn', hvars]
  rfl
end Go.Tk
end
section
namespace Go.Tk
open IntKind (i64 u8 u32 u64 wrap)
end Go.Tk
end
section
namespace Go.Tk
open IntKind (i64 u8 u32 u64 wrap)
theorem w8m (x : Int) (h : 0 ≤ x) : u8.wrap (Int.tmod x 256) = u8.wrap x := by
 rw [tm h]
 unfold wrap
 simp [IntKind.bits, IntKind.signed]
theorem Z8l {n k : Int} (h : 0 ≤ n) : 0 ≤ Zt .i64 n k := by
 unfold Zt
 rw [Int.fdiv_eq_ediv_of_nonneg _ (by exact Int.le_of_lt (Int.pow_pos (by decide)))]
 exact Int.ediv_nonneg h (by exact Int.le_of_lt (Int.pow_pos (by decide)))
theorem b8m {n k : Int} (h : 0 ≤ n) : u8.wrap (Int.tmod (Zt .i64 n k) 256) = b8 n k := w8m _ (Z8l h)
theorem Za1 (n : Int) (ys : List Int) (L : Nat) (hn : 0 ≤ n) (hy : ys = ZE n) (hL : L = ys.length) :
  evF G0 20 127 [.int .i64 n] ⟨0, []⟩ (YK 0 (.ret (.nslice ⟨0, 0, 0, 0, 0⟩ 1 L L)) 1 [(0, .ints .u8 ys)]) := by
 refine @Eq.mpr _ (let q1 := [wrap u8 (Int.tmod (Zt i64 n 8) 256), wrap u8 (Int.tmod (Zt i64 n 0) 256)];
 let q2 := wrap u8 (Int.tmod (Zt i64 n 24) 256) :: wrap u8 (Int.tmod (Zt i64 n 16) 256) :: q1;
 Z0 (decide (n < 253)) (Z0 (decide (1 = L)) (Z0 (decide (L ≤ 1)) ([wrap u8 n] = ys ∧ True) False) False) (Z0 (decide (n < 65536)) (Z0 (decide (3 = L)) (Z0 (decide (L ≤ 3)) ((253 : Int) :: q1 = ys ∧ True) False) False) (Z0 (decide (n < 4294967296)) (Z0 (decide (5 = L)) (Z0 (decide (L ≤ 5)) ((254 : Int) :: q2 = ys ∧ True) False) False) (Z0 (decide (9 = L)) (Z0 (decide (L ≤ 9)) ((255 : Int) :: wrap u8 (Int.tmod (Zt i64 n 56) 256) :: wrap u8 (Int.tmod (Zt i64 n 48) 256) :: wrap u8 (Int.tmod (Zt i64 n 40) 256) :: wrap u8 (Int.tmod (Zt i64 n 32) 256) :: q2 = ys ∧ True) False) False)))) (by kernel_rfl) ?_
 conv => zeta
 try simp only [Zk]
 try simp only [Zn]
 try simp only [Zl]
 try simp only [Zo]
 try simp only [Zp]
 try simp only [Zi]
 try simp only [Int.toNat_natCast, Nat.zero_add, true_and, and_true, Nat.le_refl]
 subst hy hL
 refine ⟨fun h1 => ?_, fun h1 => ⟨fun h2 => ?_, fun h2 => ⟨fun h3 => ?_, fun h3 => ?_⟩⟩⟩
 ·rw [Z6N h1]; simp
 ·rw [Z6O h1 h2]; simp [b8m hn]
 ·rw [Z6P h1 h2 h3]; simp [b8m hn]
 ·rw [Z6Q h1 h2 h3]; simp [b8m hn]
def Z6Y (W : Int → List Int) : Yz := fun args h K => match args with
 | [.int .i64 n] => Zj (0 ≤ n) (K (.ret (.nslice ⟨h.next, 0, 0, 0, 0⟩ 1 (W n).length (W n).length)) ⟨h.next + 1, (h.next, .ints .u8 (W n)) :: h.bs⟩)
 | _ => False
theorem Z6Z (args : List AV) (h : Z5) (K : KO) (hl : Z6Y ZE args h K) : Zc PP 127 args h K := by
 unfold Z6Y at hl
 split at hl
 ·obtain ⟨hn, hK⟩ := Z7 hl
  exact (Zx.evM Zv (Za1 _ _ _ hn rfl rfl)).calls (fun E w rs he hr => by
   cases hr with
   | cons v r vs rs h1 h2 => cases h2; exact .cons _ _ _ _ (h1.plain rfl) .nil) rfl ⟨Nat.one_pos, .ints _ _, trivial⟩ hK
 ·exact hl.elim
structure Bytes (xs : List Int) : Prop where
 h : ∀ i : Nat, 0 ≤ xs.getD i 0 ∧ xs.getD i 0 ≤ 255
theorem Bytes.drop {xs : List Int} (h : Bytes xs) (n : Nat) : Bytes (xs.drop n) := ⟨fun i => by
 have := h.h (n + i)
 rw [List.getD_eq_getElem?_getD] at this
 rw [List.getD_eq_getElem?_getD, List.getElem?_drop]
 exact this⟩
def inZ : InS := ⟨ZG, 0, 0, ZG, ZG, ZG⟩
def ZbM : Z0E := ⟨0, 0, ZG, ZG, ZG, ZG, 0, 0⟩
end Go.Tk
end
section
namespace Go.Tk
open IntKind (i64 u8 u32 u64 wrap)
theorem Bytes.getD {xs : List Int} (h : Bytes xs) (i : Nat) : 0 ≤ xs.getD i 0 ∧ xs.getD i 0 < 256 := by
 have := h.h i
 omega
end Go.Tk
end
section
namespace Go.Tk
open IntKind (i64 u8 u32 u64 wrap)
structure TxB (t : TxS) : Prop where
 h : ∀ i, i < t.M → Bytes (t.outs i).owner ∧ Bytes (t.outs i).other
end Go.Tk
end
section
namespace Go.Tk
open IntKind (i64 u8 u32 u64 wrap)
end Go.Tk
end
section
namespace Go.Tk
open IntKind (i64 u8 u32 u64 wrap)
end Go.Tk
end
section
namespace Go.Tk
open IntKind (i64 u8 u32 u64 wrap)
theorem Z2J {n : Nat} {xs : List Int} (h : xs.length = n) (hw : ∀ i, i < n → (Lit.int .u8 (xs.getD i 0)).wf = true) : Bytes xs := ⟨fun i => by
 by_cases hi : i < n
 ·have := hw i hi
  simp [Lit.wf] at this
  have m1 : u8.min = 0 := rfl
  have m2 : u8.max = 255 := rfl
  simp
  omega
 ·rw [List.getD_eq_getElem?_getD, List.getElem?_eq_none (by omega)]; simp⟩
structure InS.By (x : InS) : Prop where
 name : Bytes x.name
 tag : Bytes x.tag
 also : Bytes x.also
 secret : Bytes x.secret
structure Z0E.By (x : Z0E) : Prop where
 owner : Bytes x.owner
 other : Bytes x.other
 point : Bytes x.point
 hash : Bytes x.hash
structure Z9g (t : TxS) : Prop where
 ins : ∀ i, i < t.N → (t.ins i).By
 outs : ∀ i, i < t.M → (t.outs i).By
theorem Z9g.b {t : TxS} (h : Z9g t) : TxB t := ⟨fun i hi => ⟨(h.outs i hi).owner, (h.outs i hi).other⟩⟩
theorem pick {α : Type} [Inhabited α] {n : Nat} {p : Nat → α → Prop} (h : ∀ i, i < n → ∃ a, p i a) : ∃ f : Nat → α, ∀ i, i < n → p i (f i) :=
 ⟨fun i => if hi : i < n then Classical.choose (h i hi) else default, fun i hi => by
  simp only [hi, dite_true]
  exact Classical.choose_spec (h i hi)⟩
instance : Inhabited InS := ⟨inZ⟩
instance : Inhabited Z0E := ⟨ZbM⟩
theorem Zc.conv {P : Program} {f : FuncId} {us bs : List AV} {h : Z5} {K : KO} (hc : Zc P f bs h K) (hr : ∀ E rs, Zs E us rs → Zs E bs rs) : Zc P f us h K :=
 fun E w rs he hl => hc E w rs he (hr E rs hl)
theorem Bytes.nil : Bytes [] := ⟨fun i => by simp⟩
theorem Bytes.cons {x : Int} {xs : List Int} (hx : 0 ≤ x ∧ x ≤ 255) (h : Bytes xs) : Bytes (x :: xs) := ⟨fun i => by
 cases i with
 | zero => simpa using hx
 | succ i => have := h.h i; simpa using this⟩
end Go.Tk
end
section
namespace Go.Tk
open IntKind (i64 u8 u32 u64 wrap)
end Go.Tk
end
section
namespace Go.Tk
open IntKind (i64 u8 u32 u64 wrap)
end Go.Tk
end
section
namespace Go.Tk
open IntKind (i64 u8 u32 u64 wrap)
def rg3 (a b n : Int) (w : Int) : Int := Wc .u32 (Wc .u32 (Z9K w (32 - a)) (Z9K w (32 - b))) (Zt .u32 w n)
def Z5o (bl : List Int) (t : Nat) : Int := u32.wrap (u32.wrap (u32.wrap (ZC .u32 (u32.wrap (bl.getD (4 * t) 0)) 24 + ZC .u32 (u32.wrap (bl.getD (4 * t + 1) 0)) 16) + ZC .u32 (u32.wrap (bl.getD (4 * t + 2) 0)) 8) + u32.wrap (bl.getD (4 * t + 3) 0))
def Za2 (m : List Int) (t : Nat) : Int := u32.wrap (u32.wrap (u32.wrap (rg3 17 19 10 (m.getD (t - 2) 0) + m.getD (t - 7) 0) + rg3 7 18 3 (m.getD (t - 15) 0)) + m.getD (t - 16) 0)
def Ua (bl : List Int) : Nat → List Int
 | 0 => List.replicate 64 0
 | t + 1 => (Ua bl t).set t (if t < 16 then Z5o bl t else Za2 (Ua bl t) t)
theorem Z2K (bl : List Int) : ∀ t, (Ua bl t).length = 64
 | 0 => rfl
 | t + 1 => by simp [Ua, Z2K bl t]
attribute [irreducible] Ua
end Go.Tk
end
section
namespace Go.Tk
open IntKind (i64 u8 u32 u64 wrap)
end Go.Tk
end
section
namespace Go.Tk
open IntKind (i64 u8 u32 u64 wrap)
end Go.Tk
end
section
namespace Go.Tk
open IntKind (i64 u8 u32 u64 wrap)
end Go.Tk
end
section
namespace Go.Tk
open IntKind (i64 u8 u32 u64 wrap)
def U32 (x : Int) : Prop := 0 ≤ x ∧ x < 4294967296
theorem ZaO (x : Int) : u32.wrap x = x % 4294967296 := by
 unfold wrap
 simp [IntKind.bits, IntKind.signed]
theorem V9 {x : Int} (h : U32 x) : u32.wrap x = x := by rw [ZaO]; unfold U32 at h; omega
theorem Z8m (x y : Nat) (hx : x < 4294967296) (hy : y < 4294967296) : bOr .u32 x y = ((x ||| y : Nat) : Int) := by
 unfold bOr
 rw [V9]
 ·show (((BitVec.ofInt 32 (x : Int) ||| BitVec.ofInt 32 (y : Int)).toNat : Nat) : Int) = _
  rw [BitVec.toNat_or, BitVec.ofInt_natCast, BitVec.ofInt_natCast, BitVec.toNat_ofNat, BitVec.toNat_ofNat, Nat.mod_eq_of_lt hx, Nat.mod_eq_of_lt hy]
 ·unfold U32
  have := (BitVec.ofInt u32.bits x ||| BitVec.ofInt u32.bits y).isLt
  simp only [IntKind.bits] at this
  simp only [IntKind.bits]
  omega
theorem U32.nat {x : Int} (h : U32 x) : ∃ n : Nat, x = n ∧ n < 4294967296 := ⟨x.toNat, by unfold U32 at h; omega, by unfold U32 at h; omega⟩
theorem U32.of {n : Nat} (h : n < 4294967296) : U32 (n : Int) := by unfold U32; omega
theorem Z18 (bl : List Int) (t : Nat) : Ua bl (t + 1) = (Ua bl t).set t (if t < 16 then Z5o bl t else Za2 (Ua bl t) t) := by rw [Ua]
theorem Z19 (bl : List Int) (s t : Nat) (hs : s < t) : ∀ u, (Ua bl (t + u)).getD s 0 = (Ua bl t).getD s 0
 | 0 => rfl
 | u + 1 => by
  rw [← Nat.add_assoc, Z18, ← Z19 bl s t hs u]
  simp only [List.getD_eq_getElem?_getD]
  rw [List.getElem?_set_ne (by omega)]
@[irreducible] def Z70 (bl : List Int) (t : Nat) : Int := (Ua bl 64).getD t 0
theorem Z8n (bl : List Int) {s t : Nat} (hs : s < t) (ht : t ≤ 64) : (Ua bl t).getD s 0 = Z70 bl s := by
 unfold Z70
 have := Z19 bl s t hs (64 - t)
 rw [show t + (64 - t) = 64 by omega] at this
 exact this.symm
theorem Z8o (bl : List Int) {t : Nat} (ht : t < 64) : Z70 bl t = if t < 16 then Z5o bl t else Za2 (Ua bl t) t := by
 rw [← Z8n bl (Nat.lt_succ_self t) (by omega), Z18]
 simp only [List.getD_eq_getElem?_getD]
 rw [List.getElem?_set_self (by rw [Z2K]; omega)]
 rfl
theorem Z8p (bl : List Int) {t : Nat} (ht : t < 16) : Z70 bl t = Z5o bl t := by rw [Z8o bl (by omega), if_pos ht]
def Ring (bl r : List Int) (t : Nat) : Prop := r.length = 16 ∧ ∀ s, s < max 16 t → max 16 t ≤ s + 16 → r.getD (s % 16) 0 = Z70 bl s
def U8 (x : Int) : Prop := 0 ≤ x ∧ x < 256
theorem Qb (x n : Nat) (hn : n ≤ 32) (h : x * 2 ^ n < 4294967296) : ZC .u32 x n = ((x * 2 ^ n : Nat) : Int) := by
 unfold ZC
 have : min (n : Int).toNat u32.bits = n := by simp [IntKind.bits]; omega
 rw [this, show (x : Int) * 2 ^ n = ((x * 2 ^ n : Nat) : Int) by push_cast; rfl]
 exact V9 (U32.of h)
theorem Qc (x y : Nat) (hx : x < 16777216) (hy : y < 256) : bOr .u32 (ZC .u32 x 8) y = ((x * 256 + y : Nat) : Int) := by
 have := Qb x 8 (by omega) (by omega)
 rw [show ((8 : Nat) : Int) = 8 from rfl] at this
 rw [this, Z8m _ _ (by omega) (by omega), ← Nat.shiftLeft_eq, ← Nat.shiftLeft_add_eq_or_of_lt (by omega), Nat.shiftLeft_eq]
theorem WR {P : Int → Prop} {l : List Int} (h : ∀ x ∈ l, P x) (h0 : P 0) (i : Nat) : P (l.getD i 0) := by
 rw [List.getD_eq_getElem?_getD]
 cases hg : l[i]? with
 | none => exact h0
 | some x => exact h x (List.mem_of_getElem? hg)
theorem U8.nat {x : Int} (h : U8 x) : ∃ n : Nat, x = n ∧ n < 256 := ⟨x.toNat, by unfold U8 at h; omega, by unfold U8 at h; omega⟩
theorem Z8q (bl : List Int) (hb : ∀ x ∈ bl, U8 x) (t : Nat) : YU bl (4 * t) = Z5o bl t := by
 unfold YU Z5o
 obtain ⟨a, ea, ha⟩ := (WR (P := U8) hb (by unfold U8; omega) (4 * t)).nat
 obtain ⟨b, eb, hb'⟩ := (WR (P := U8) hb (by unfold U8; omega) (4 * t + 1)).nat
 obtain ⟨c, ec, hc⟩ := (WR (P := U8) hb (by unfold U8; omega) (4 * t + 2)).nat
 obtain ⟨d, ed, hd⟩ := (WR (P := U8) hb (by unfold U8; omega) (4 * t + 3)).nat
 rw [ea, eb, ec, ed]
 rw [V9 (x := (a : Int)) (U32.of (by omega)), V9 (x := (b : Int)) (U32.of (by omega)), V9 (x := (c : Int)) (U32.of (by omega)), V9 (x := (d : Int)) (U32.of (by omega))]
 have z := Qc 0 a (by omega) ha
 have s0 : ZC .u32 0 8 = 0 := by decide
 rw [show ZC .u32 ((0 : Nat) : Int) 8 = 0 from s0] at z
 rw [z, Qc _ b (by omega) hb', Qc _ c (by omega) hc, Qc _ d (by omega) hd]
 have g1 := Qb a 24 (by omega) (by omega)
 have g2 := Qb b 16 (by omega) (by omega)
 have g3 := Qb c 8 (by omega) (by omega)
 rw [show ((24 : Nat) : Int) = 24 from rfl] at g1
 rw [show ((16 : Nat) : Int) = 16 from rfl] at g2
 rw [show ((8 : Nat) : Int) = 8 from rfl] at g3
 rw [g1, g2, g3]
 simp only [ZaO]
 omega
theorem Ring.first (bl : List Int) (hb : ∀ x ∈ bl, U8 x) : Ring bl (Wk bl) 0 := by
 refine ⟨rfl, fun s h1 _ => ?_⟩
 have h16 : s < 16 := by omega
 rw [Z8p bl h16, ← Z8q bl hb, Nat.mod_eq_of_lt h16]
 have : s = 0 ∨ s = 1 ∨ s = 2 ∨ s = 3 ∨ s = 4 ∨ s = 5 ∨ s = 6 ∨ s = 7 ∨ s = 8 ∨ s = 9 ∨ s = 10 ∨ s = 11 ∨ s = 12 ∨ s = 13 ∨ s = 14 ∨ s = 15 := by omega
 rcases this with rfl | rfl | rfl | rfl | rfl | rfl | rfl | rfl | rfl | rfl | rfl | rfl | rfl | rfl | rfl | rfl <;> rfl
def Z1V (P : List Int → List Int → List Int) : Nat → List Int → List Int → List Int
 | 0, st, _ => st
 | n + 1, st, ms => Z1V P n (P st (ms.take 64)) (ms.drop 64)
theorem Z1a (P : List Int → List Int → List Int) : ∀ (n : Nat) (st ms : List Int), Z1V P (n + 1) st ms = P (Z1V P n st ms) ((ms.drop (64 * n)).take 64)
 | 0, _, _ => rfl
 | n + 1, st, ms => by
  rw [Z1V, Z1a P n, List.drop_drop]
  rw [show 64 + 64 * n = 64 * (n + 1) by omega]
  rfl
theorem Z0g (P : List Int → List Int → List Int) : ∀ (n : Nat) (st ms more : List Int), 64 * n ≤ ms.length → Z1V P n st (ms ++ more) = Z1V P n st ms
 | 0, _, _, _, _ => rfl
 | n + 1, st, ms, more, h => by
  rw [Z1V, Z1V, List.take_append_of_le_length (by omega), List.drop_append_of_le_length (by omega), Z0g P n _ _ _ (by rw [List.length_drop]; omega)]
structure Rep (r : Zr) (ms : List Int) : Prop where
 came : r.came = ms.length
 st : r.st = Z1V U5 (ms.length / 64) X3.st ms
 len : r.part.length = 64
 part : r.part.take (ms.length % 64) = ms.drop (64 * (ms.length / 64))
theorem Rep.ok {r : Zr} {ms : List Int} (h : Rep r ms) (h8 : r.st.length = 8) : r.Ok := ⟨h8, h.len, by rw [h.came]; omega⟩
theorem Rep.one {r : Zr} {ms : List Int} (h : Rep r ms) (bs : List Int) : Rep (r.one bs) (ms ++ wTk r.came bs) := by
 have ha : wAt r.came = ms.length % 64 := by
  unfold wAt
  rw [h.came, tm (by omega)]
  omega
 have hk : (wTk r.came bs).length ≤ 64 - ms.length % 64 := by
  unfold wTk
  rw [ha, List.length_take]
  omega
 have hdl : (ms.drop (64 * (ms.length / 64))).length = ms.length % 64 := by rw [List.length_drop]; omega
 have hp : W4 r.part r.came bs = ms.drop (64 * (ms.length / 64)) ++ wTk r.came bs ++ r.part.drop (ms.length % 64 + (wTk r.came bs).length) := by
  unfold W4 spl
  rw [ha, h.part]
 have hl : (W4 r.part r.came bs).length = 64 := by
  rw [hp, List.length_append, List.length_append, hdl, List.length_drop, h.len]
  omega
 have hst : (r.one bs).st = if ms.length % 64 + (wTk r.came bs).length = 64 then U5 r.st (W4 r.part r.came bs) else r.st := by
  show wSt _ _ _ _ = _
  unfold wSt
  rw [ha]
 have hca : (r.one bs).came = r.came + (wTk r.came bs).length := rfl
 have hpa : (r.one bs).part = W4 r.part r.came bs := rfl
 generalize wTk r.came bs = tk at *
 generalize W4 r.part r.came bs = pa at *
 have hal : (ms ++ tk).length = ms.length + tk.length := List.length_append
 refine ⟨by rw [hca, h.came, hal]; omega, ?_, by rw [hpa]; exact hl, ?_⟩
 ·rw [hst, h.st]
  by_cases h64 : ms.length % 64 + tk.length = 64
  ·rw [if_pos h64, hal, show (ms.length + tk.length) / 64 = ms.length / 64 + 1 by omega, Z1a, Z0g _ _ _ _ _ (by omega)]
   congr 1
   rw [List.drop_append_of_le_length (by omega), hp, show r.part.drop (ms.length % 64 + tk.length) = [] from List.drop_eq_nil_of_le (by rw [h.len]; omega), List.append_nil, List.take_of_length_le (by rw [List.length_append, hdl]; omega)]
  ·rw [if_neg h64, hal, show (ms.length + tk.length) / 64 = ms.length / 64 by omega, Z0g _ _ _ _ _ (by omega)]
 ·rw [hpa, hal]
  by_cases h64 : ms.length % 64 + tk.length = 64
  ·rw [show (ms.length + tk.length) % 64 = 0 by omega, List.take_zero, List.drop_eq_nil_of_le (by rw [hal]; omega)]
  ·rw [show (ms.length + tk.length) / 64 = ms.length / 64 by omega, show (ms.length + tk.length) % 64 = ms.length % 64 + tk.length by omega, hp, List.drop_append_of_le_length (by omega)]
   rw [List.take_append_of_le_length (by rw [List.length_append, hdl]; omega)]
   exact List.take_of_length_le (by rw [List.length_append, hdl]; omega)
end Go.Tk
end
section
namespace Go.Tk
open IntKind (i64 u8 u32 u64 wrap)
end Go.Tk
end
section
namespace Go.Tk
open IntKind (i64 u8 u32 u64 wrap)
end Go.Tk
end
section
namespace Go.Tk
open IntKind (i64 u8 u32 u64 wrap)
end Go.Tk
end
section
namespace Go.Tk
open IntKind (i64 u8 u32 u64 wrap)
theorem Bytes.u8 {xs : List Int} (h : Bytes xs) : ∀ x ∈ xs, U8 x := by
 intro x hx
 obtain ⟨i, hi, rfl⟩ := List.getElem_of_mem hx
 have := h.h i
 rw [List.getD_eq_getElem?_getD, List.getElem?_eq_getElem hi] at this
 simp at this
 unfold U8
 omega
theorem Bytes.of {xs : List Int} (h : ∀ x ∈ xs, U8 x) : Bytes xs := ⟨fun i => by
 have := WR (P := U8) h (by unfold U8; omega) i
 unfold U8 at this
 omega⟩
end Go.Tk
end
section
namespace Go.Tk
open IntKind (i64 u8 u32 u64 wrap)
structure ZY where
 fund : List Int
 index : Int
 cap : Int
 dust : Int
 fee : Int
 delay : Int
 k0 : List Int
 k1 : List Int
def ZY.c (t : ZY) : List AV := [.arr .u8 32 t.fund, .int .i64 t.index, .int .i64 t.cap, .int .i64 t.dust, .int .i64 t.fee, .int .i64 t.delay, .arr .u8 32 t.k0, .arr .u8 32 t.k1]
structure ZY.Ok (t : ZY) : Prop where
 k0 : t.k0.length = 32
 k1 : t.k1.length = 32
 b0 : Bytes t.k0
 b1 : Bytes t.k1
def YS (t : ZY) : Bool := decide (0 ≤ t.index ∧ t.index ≤ 23) && decide (1000 ≤ t.cap ∧ t.cap ≤ 1125899906842624) && decide (1 ≤ t.dust ∧ t.dust ≤ 500) && decide (0 ≤ t.fee ∧ t.fee ≤ 400) && decide (1 ≤ t.delay ∧ t.delay ≤ 1000) && (t.k0 != t.k1)
theorem WS (b : Bool) (x y : Prop) : Z0 b x y = ((b = true → x) ∧ (b = false → y)) := by cases b <;> simp [Z0]
theorem ZaP (n a b : Int) (r : Bool) (hr : r = decide (a ≤ n ∧ n ≤ b)) :
  evF G0 20 149 [.int .i64 n, .int .i64 a, .int .i64 b] ⟨0, []⟩ (Yn (fun v => v = .bool r)) := by
 refine @Eq.mpr _ (Z0 (decide (a ≤ n)) (AV.bool (decide (n ≤ b)) = AV.bool r) (AV.bool false = AV.bool r)) (by kernel_rfl) ?_
 simp only [WS]
 subst hr
 by_cases h1 : a ≤ n <;> by_cases h2 : n ≤ b <;> simp [h1, h2]
def inQ : ZQ := fun args _ K => match args with
 | [.int .i64 n, .int .i64 a, .int .i64 b] => K (.bool (decide (a ≤ n ∧ n ≤ b)))
 | _ => False
theorem Za3 (args : List AV) (h : Z5) (K : AV → Prop) (hl : inQ args h K) : Zc PP 149 args h fun o h' => ∃ v, o = .ret v ∧ h' = h ∧ K v := by
 unfold inQ at hl
 split at hl
 ·exact Ys Zv rfl (ZaP _ _ _ _ rfl) (fun u hu => hu ▸ hl)
 ·exact hl.elim
noncomputable def E71 : Zf := G0.withP 149 inQ
theorem Za4 : E71.Ok := Zf.withP_ok Zv Za3
theorem ZaQ (t : ZY) (e : Int) (ht : t.Ok) (he : e = if YS t = true then 0 else 2) :
  evF E71 20 75 [.agg t.c] ⟨0, []⟩ (Yn (fun v => v = .int .i64 e)) := by
 refine @Eq.mpr _ (let q1 := AV.int i64 2 = AV.int i64 e;
 Z0 (decide (List.length t.k0 = 32 ∧ List.length t.k1 = 32)) (Z0 (false == decide (0 ≤ t.index ∧ t.index ≤ 23)) q1 (Z0 (false == decide (1000 ≤ t.cap ∧ t.cap ≤ 1125899906842624)) q1 (Z0 (false == decide (1 ≤ t.dust ∧ t.dust ≤ 500)) q1 (Z0 (false == decide (0 ≤ t.fee ∧ t.fee ≤ 400)) q1 (Z0 (false == decide (1 ≤ t.delay ∧ t.delay ≤ 1000)) q1 (Z0 (false == !t.k0 == t.k1) q1 (AV.int i64 0 = AV.int i64 e))))))) False) (by kernel_rfl) ?_
 conv => zeta
 try simp only [Zk]
 try simp only [Zn]
 try simp only [Zl]
 try simp only [Zo]
 try simp only [Zp]
 try simp only [Zi]
 try simp only [Int.toNat_natCast, Nat.zero_add, true_and, and_true, Nat.le_refl]
 unfold YS at he
 refine ⟨⟨ht.k0, ht.k1⟩, ?_⟩
 generalize decide (0 ≤ t.index ∧ t.index ≤ 23) = c1 at *
 generalize decide (1000 ≤ t.cap ∧ t.cap ≤ 1125899906842624) = c2 at *
 generalize decide (1 ≤ t.dust ∧ t.dust ≤ 500) = c3 at *
 generalize decide (0 ≤ t.fee ∧ t.fee ≤ 400) = c4 at *
 generalize decide (1 ≤ t.delay ∧ t.delay ≤ 1000) = c5 at *
 have h6 : (t.k0 != t.k1) = !(t.k0 == t.k1) := rfl
 rw [h6] at he
 generalize (t.k0 == t.k1) = c6 at *
 cases c1 <;> cases c2 <;> cases c3 <;> cases c4 <;> cases c5 <;> cases c6 <;> simp_all
theorem ZaR (t : ZY) (b : Bool) (ht : t.Ok) (hb : b = YS t) :
  evF G0 20 78 [.agg t.c] ⟨0, []⟩ (Yn (fun v => v = .bool b)) := by
 refine @Eq.mpr _ (let q1 := t.cap;
 let q2 := AV.bool false = AV.bool b;
 Z0 (decide (t.index ≥ 0)) (Z0 (decide (t.index < 24)) (Z0 (decide (q1 ≥ 1000)) (Z0 (decide (q1 ≥ 0)) (Z0 (decide (q1 ≤ 1125899906842624)) (Z0 (decide (t.dust ≥ 1)) (Z0 (decide (t.dust ≤ 500)) (Z0 (decide (t.fee ≥ 0)) (Z0 (decide (t.fee ≤ 400)) (Z0 (decide (t.delay ≥ 1)) (Z0 (decide (t.delay ≤ 1000)) (Z0 (decide (List.length t.k0 = 32 ∧ List.length t.k1 = 32)) ((AV.bool !t.k0 == t.k1) = AV.bool b) False) q2) q2) q2) q2) q2) q2) q2) q2) q2) q2) q2) (by kernel_rfl) ?_
 conv => zeta
 try simp only [Zk]
 try simp only [Zn]
 try simp only [Zl]
 try simp only [Zo]
 try simp only [Zp]
 try simp only [Zi]
 try simp only [Int.toNat_natCast, Nat.zero_add, true_and, and_true, Nat.le_refl]
 subst hb
 unfold YS
 repeat' (first | (refine And.intro ?_ ?_) | intro _ | fail)
 all_goals first
  | exact ht.k0
  | exact ht.k1
  | (congr 1; symm; rw [Bool.eq_false_iff]; simp only [ne_eq, Bool.and_eq_true, decide_eq_true_eq]; intro h; omega)
  | (congr 1; have h1 : (0 ≤ t.index ∧ t.index ≤ 23) := (by omega); have h2 : (1000 ≤ t.cap ∧ t.cap ≤ 1125899906842624) := (by omega); have h3 : (1 ≤ t.dust ∧ t.dust ≤ 500) := (by omega); have h4 : (0 ≤ t.fee ∧ t.fee ≤ 400) := (by omega); have h5 : (1 ≤ t.delay ∧ t.delay ≤ 1000) := (by omega); rw [decide_eq_true h1, decide_eq_true h2, decide_eq_true h3, decide_eq_true h4, decide_eq_true h5]; rfl)
def Z71 : ZQ := fun args _ K => match args with
 | [.agg [.arr .u8 32 fu, .int .i64 ix, .int .i64 ca, .int .i64 du, .int .i64 fe, .int .i64 de, .arr .u8 32 k0, .arr .u8 32 k1]] => (ZY.Ok ⟨fu, ix, ca, du, fe, de, k0, k1⟩) ∧ K (.int .i64 (if YS ⟨fu, ix, ca, du, fe, de, k0, k1⟩ = true then 0 else 2))
 | _ => False
theorem Z72 (args : List AV) (h : Z5) (K : AV → Prop) (hl : Z71 args h K) : Zc PP 75 args h fun o h' => ∃ v, o = .ret v ∧ h' = h ∧ K v := by
 unfold Z71 at hl
 split at hl
 ·obtain ⟨ht, hK⟩ := hl
  exact Ys Za4 rfl (ZaQ ⟨_, _, _, _, _, _, _, _⟩ _ ht rfl) (fun u hu => hu ▸ hK)
 ·exact hl.elim
def Z3R : ZQ := fun args _ K => match args with
 | [.agg [.arr .u8 32 fu, .int .i64 ix, .int .i64 ca, .int .i64 du, .int .i64 fe, .int .i64 de, .arr .u8 32 k0, .arr .u8 32 k1]] => (ZY.Ok ⟨fu, ix, ca, du, fe, de, k0, k1⟩) ∧ K (.bool (YS ⟨fu, ix, ca, du, fe, de, k0, k1⟩))
 | _ => False
theorem Z5p (args : List AV) (h : Z5) (K : AV → Prop) (hl : Z3R args h K) : Zc PP 78 args h fun o h' => ∃ v, o = .ret v ∧ h' = h ∧ K v := by
 unfold Z3R at hl
 split at hl
 ·obtain ⟨ht, hK⟩ := hl
  exact Ys Zv rfl (ZaR ⟨_, _, _, _, _, _, _, _⟩ _ ht rfl) (fun u hu => hu ▸ hK)
 ·exact hl.elim
end Go.Tk
end
section
namespace Go.Tk
open IntKind (i64 u8 u32 u64 wrap)
structure Z9 where
 own : Bool
 id : Int
 amount : Int
 hash : List Int
 expiry : Int
 stage : Int
 fin : Int
 secret : List Int
def Z9.c (h : Z9) : List AV := [.bool h.own, .int .i64 h.id, .int .i64 h.amount, .arr .u8 32 h.hash, .int .i64 h.expiry, .int .i64 h.stage, .int .i64 h.fin, .arr .u8 32 h.secret]
structure Z9.Ok (h : Z9) : Prop where
 hash : h.hash.length = 32
 hb : Bytes h.hash
 secret : h.secret.length = 32
 sb : Bytes h.secret
def Zd : Z9 := ⟨false, 0, 0, ZG, 0, 0, 0, ZG⟩
def Ze (L : List Z9) (i : Nat) : List AV := (L.getD i Zd).c
structure Za where
 t : ZY
 side : Int
 res : Int
 a0 : Int
 a1 : Int
 i0 : Int
 i1 : Int
 L : List Z9
def Za.c (X : Za) (l : AV) : List AV := X.t.c ++ [.int .i64 X.side, .int .i64 X.res, .arr .i64 2 [X.a0, X.a1], .arr .i64 2 [X.i0, X.i1], l]
def Wm (side : Int) (own : Bool) : Int := match own with | true => side | false => 1 - side
def Za.nx (X : Za) (own : Bool) : Int := match own with | true => X.i0 | false => X.i1
def Za.am (X : Za) (s : Int) : Int := if s = 0 then X.a0 else X.a1
def ZN (side s : Int) (L : List Z9) : List Z9 := L.filter fun h => decide (Wm side h.own = s)
def X4 (L : List Z9) : List Int := L.map (·.amount)
def Yt (X : Za) (s : Int) : Int := X.am s - (X4 (ZN X.side s X.L)).sum - X.res - (if s = 0 then X.t.fee else 0)
def Vr (h : Z9) : Bool := decide (0 ≤ h.id ∧ h.id ≤ 2147483647) && decide (1 ≤ h.amount ∧ h.amount ≤ 1125899906842624) && decide (1 ≤ h.expiry ∧ h.expiry ≤ 2147483647)
def Z73 (H : List Int → List Int) (h : Z9) : Bool := if h.fin = 0 then decide (h.stage < 6) && (h.secret == ZG) else if h.fin = 1 then decide (6 ≤ h.stage) && (H h.secret == h.hash) else if h.fin = 2 then decide (6 ≤ h.stage) && (h.secret == ZG) else false
def Xb (H : List Int → List Int) (X : Za) (h : Z9) : Bool := Vr h && decide (h.id < X.nx h.own) && decide (1 ≤ h.stage ∧ h.stage ≤ 9) && Z73 H h
def Wt (a b : Z9) : Prop := (a.own = true ∧ b.own = false) ∨ (a.own = b.own ∧ a.id < b.id ∧ min b.stage 5 ≤ min a.stage 5)
instance (a b : Z9) : Decidable (Wt a b) := by unfold Wt; infer_instance
def YT (H : List Int → List Int) (X : Za) (i : Nat) : Bool := Xb H X (X.L.getD i Zd) && (Nat.beq i 0 || decide (Wt (X.L.getD (i - 1) Zd) (X.L.getD i Zd)))
def Z2L (X : Za) : Bool := YS X.t && decide (0 ≤ X.side ∧ X.side ≤ 1) && decide (0 ≤ X.res ∧ X.res ≤ X.t.cap / 10) && decide (0 ≤ X.a0 ∧ X.a0 ≤ X.t.cap) && decide (X.a1 = X.t.cap - X.a0) && decide (0 ≤ X.i0 ∧ X.i0 ≤ 2147483648) && decide (0 ≤ X.i1 ∧ X.i1 ≤ 2147483648) && decide ((ZN X.side 0 X.L).length ≤ 8) && decide ((ZN X.side 1 X.L).length ≤ 8)
def ZV (H : List Int → List Int) (X : Za) : Bool := Z2L X && (List.range X.L.length).all (YT H X) && decide (0 ≤ Yt X 0) && (decide ((ZN X.side 1 X.L).length = 0) || decide (0 ≤ Yt X 1))
theorem Z3S {a b c : Z9} (h1 : Wt a b) (h2 : Wt b c) : Wt a c := by
 unfold Wt at *
 rcases h1 with ⟨p1, p2⟩ | ⟨p1, p2, p3⟩ <;> rcases h2 with ⟨q1, q2⟩ | ⟨q1, q2, q3⟩
 ·rw [p2] at q1; cases q1
 ·exact .inl ⟨p1, by rw [← q1, p2]⟩
 ·exact .inl ⟨by rw [p1, q1], q2⟩
 ·exact .inr ⟨p1.trans q1, by omega, by omega⟩
theorem Ws {α : Type} {R : α → α → Prop} (ht : ∀ {a b c}, R a b → R b c → R a c) (d : α) : ∀ (L : List α), (∀ i, i + 1 < L.length → R (L.getD i d) (L.getD (i + 1) d)) → L.Pairwise R
 | [], _ => .nil
 | [a], _ => by simp
 | a :: b :: r, h => by
  have ih := Ws (R := R) ht d (b :: r) fun i hi => by
   have := h (i + 1) (by simpa using hi)
   rw [List.getD_cons_succ, List.getD_cons_succ] at this
   exact this
  refine List.pairwise_cons.2 ⟨fun z hz => ?_, ih⟩
  have hab : R a b := by simpa using h 0 (by simp)
  rcases List.mem_cons.1 hz with rfl | hz
  ·exact hab
  ·exact ht hab ((List.pairwise_cons.1 ih).1 z hz)
structure Za.Inv (H : List Int → List Int) (X : Za) : Prop where
 tok : X.t.Ok
 tb : YS X.t = true
 side : X.side = 0 ∨ X.side = 1
 res : 0 ≤ X.res ∧ X.res ≤ X.t.cap / 10
 a0 : 0 ≤ X.a0 ∧ X.a0 ≤ X.t.cap
 a1 : X.a1 = X.t.cap - X.a0
 i0 : 0 ≤ X.i0 ∧ X.i0 ≤ 2147483648
 i1 : 0 ≤ X.i1 ∧ X.i1 ≤ 2147483648
 n0 : (ZN X.side 0 X.L).length ≤ 8
 n1 : (ZN X.side 1 X.L).length ≤ 8
 und : ∀ h ∈ X.L, Xb H X h = true
 fol : X.L.Pairwise Wt
 ov0 : 0 ≤ Yt X 0
 ov1 : ZN X.side 1 X.L = [] ∨ 0 ≤ Yt X 1
 ok : ∀ h ∈ X.L, h.Ok
theorem Uv {X : Za} : Z2L X = true ↔ YS X.t = true ∧ (0 ≤ X.side ∧ X.side ≤ 1) ∧ (0 ≤ X.res ∧ X.res ≤ X.t.cap / 10) ∧ (0 ≤ X.a0 ∧ X.a0 ≤ X.t.cap) ∧ X.a1 = X.t.cap - X.a0 ∧ (0 ≤ X.i0 ∧ X.i0 ≤ 2147483648) ∧ (0 ≤ X.i1 ∧ X.i1 ≤ 2147483648) ∧ (ZN X.side 0 X.L).length ≤ 8 ∧ (ZN X.side 1 X.L).length ≤ 8 := by
 unfold Z2L
 simp only [Bool.and_eq_true, decide_eq_true_eq, and_assoc]
theorem VM {H : List Int → List Int} {X : Za} : ZV H X = true ↔ Z2L X = true ∧ (∀ i, i < X.L.length → YT H X i = true) ∧ 0 ≤ Yt X 0 ∧ ((ZN X.side 1 X.L).length = 0 ∨ 0 ≤ Yt X 1) := by
 unfold ZV
 simp only [Bool.and_eq_true, Bool.or_eq_true, decide_eq_true_eq, and_assoc, List.all_eq_true, List.mem_range]
theorem ZU {L : List Z9} {i : Nat} (h : i < L.length) : L.getD i Zd ∈ L := by
 rw [List.getD_eq_getElem?_getD, List.getElem?_eq_getElem h]; exact List.getElem_mem h
theorem Z8r {H : List Int → List Int} {X : Za} (ht : X.t.Ok) (hok : ∀ h ∈ X.L, h.Ok) : ZV H X = true ↔ X.Inv H := by
 rw [VM, Uv]
 constructor
 ·rintro ⟨⟨h1, h2, h3, h4, h5, h6, h7, h8, h9⟩, hl, h10, h11⟩
  refine ⟨ht, h1, by omega, h3, h4, h5, h6, h7, h8, h9, fun h hh => ?_, ?_, h10, ?_, hok⟩
  ·obtain ⟨i, hi, rfl⟩ := List.getElem_of_mem hh
   have := hl i hi
   unfold YT at this
   simp only [Bool.and_eq_true] at this
   rw [List.getD_eq_getElem?_getD, List.getElem?_eq_getElem hi] at this
   exact this.1
  ·refine Ws (R := Wt) Z3S Zd X.L fun i hi => ?_
   have := hl (i + 1) hi
   unfold YT at this
   simp only [Bool.and_eq_true, Bool.or_eq_true, decide_eq_true_eq, Nat.add_sub_cancel] at this
   rcases this.2 with h | h
   ·have := Nat.eq_of_beq_eq_true h; omega
   ·exact h
  ·rcases h11 with h | h
   ·exact .inl (List.eq_nil_of_length_eq_zero h)
   ·exact .inr h
 ·intro h
  refine ⟨⟨h.tb, by have := h.side; omega, h.res, h.a0, h.a1, h.i0, h.i1, h.n0, h.n1⟩, fun i hi => ?_, h.ov0, ?_⟩
  ·unfold YT
   simp only [Bool.and_eq_true, Bool.or_eq_true, decide_eq_true_eq]
   refine ⟨h.und _ (ZU hi), ?_⟩
   cases i with
   | zero => exact .inl rfl
   | succ i =>
    right
    rw [Nat.add_sub_cancel, List.getD_eq_getElem?_getD, List.getD_eq_getElem?_getD, List.getElem?_eq_getElem hi, List.getElem?_eq_getElem (by omega)]
    exact (List.pairwise_iff_getElem.1 h.fol) i (i + 1) (by omega) hi (by omega)
  ·rcases h.ov1 with h | h
   ·exact .inl (by rw [h]; rfl)
   ·exact .inr h
def Z0h (own : Bool) (s : Int) : Int := if s < 1 ∨ 9 < s ∨ s = 5 then 0 else match own with
 | true => if s < 5 then s else (s - 4) % 4 + 1
 | false => if s < 5 then (s + 1) % 4 + 1 else s - 5
def Za5 (h : Z9) : List Z9 → List Z9
 | [] => [h]
 | x :: r => if h.own = true ∧ x.own = false then h :: x :: r else x :: Za5 h r
def X5 (own : Bool) (id : Int) : List Z9 → Nat
 | [] => 0
 | x :: r => if x.own = own ∧ x.id = id then 0 else X5 own id r + 1
def Xc (L : List Z9) : Bool := L.any fun h => decide (Z0h h.own h.stage = 1)
end Go.Tk
end
section
namespace Go.Tk
open IntKind (i64 u8 u32 u64 wrap)
theorem ZaS (n a b : Int) (r : Bool) (hr : r = decide (a ≤ n ∧ n ≤ b)) :
  evF G0 20 53 [.int .i64 n, .int .i64 a, .int .i64 b] ⟨0, []⟩ (Yn (fun v => v = .bool r)) := by
 refine @Eq.mpr _ (Z0 (decide (a ≤ n)) (AV.bool (decide (n ≤ b)) = AV.bool r) (AV.bool false = AV.bool r)) (by kernel_rfl) ?_
 simp only [WS]
 subst hr
 by_cases h1 : a ≤ n <;> by_cases h2 : n ≤ b <;> simp [h1, h2]
theorem ZaT (n a b : Int) (r : Bool) (hr : r = decide (a ≤ n ∧ n ≤ b)) :
  evF G0 20 67 [.int .i64 n, .int .i64 a, .int .i64 b] ⟨0, []⟩ (Yn (fun v => v = .bool r)) := by
 refine @Eq.mpr _ (Z0 (decide (a ≤ n)) (AV.bool (decide (n ≤ b)) = AV.bool r) (AV.bool false = AV.bool r)) (by kernel_rfl) ?_
 simp only [WS]
 subst hr
 by_cases h1 : a ≤ n <;> by_cases h2 : n ≤ b <;> simp [h1, h2]
theorem ZaU (n a b : Int) (r : Bool) (hr : r = decide (a ≤ n ∧ n ≤ b)) :
  evF G0 20 121 [.int .i64 n, .int .i64 a, .int .i64 b] ⟨0, []⟩ (Yn (fun v => v = .bool r)) := by
 refine @Eq.mpr _ (Z0 (decide (a ≤ n)) (AV.bool (decide (n ≤ b)) = AV.bool r) (AV.bool false = AV.bool r)) (by kernel_rfl) ?_
 simp only [WS]
 subst hr
 by_cases h1 : a ≤ n <;> by_cases h2 : n ≤ b <;> simp [h1, h2]
theorem ZaV (n a b : Int) (r : Bool) (hr : r = decide (a ≤ n ∧ n ≤ b)) :
  evF G0 20 49 [.int .i64 n, .int .i64 a, .int .i64 b] ⟨0, []⟩ (Yn (fun v => v = .bool r)) := by
 refine @Eq.mpr _ (Z0 (decide (a ≤ n)) (AV.bool (decide (n ≤ b)) = AV.bool r) (AV.bool false = AV.bool r)) (by kernel_rfl) ?_
 simp only [WS]
 subst hr
 by_cases h1 : a ≤ n <;> by_cases h2 : n ≤ b <;> simp [h1, h2]
theorem Z1W (args : List AV) (h : Z5) (K : AV → Prop) (hl : inQ args h K) : Zc PP 53 args h fun o h' => ∃ v, o = .ret v ∧ h' = h ∧ K v := by
 unfold inQ at hl
 split at hl
 ·exact Ys Zv rfl (ZaS _ _ _ _ rfl) (fun u hu => hu ▸ hl)
 ·exact hl.elim
theorem Z0i (args : List AV) (h : Z5) (K : AV → Prop) (hl : inQ args h K) : Zc PP 67 args h fun o h' => ∃ v, o = .ret v ∧ h' = h ∧ K v := by
 unfold inQ at hl
 split at hl
 ·exact Ys Zv rfl (ZaT _ _ _ _ rfl) (fun u hu => hu ▸ hl)
 ·exact hl.elim
theorem Z0j (args : List AV) (h : Z5) (K : AV → Prop) (hl : inQ args h K) : Zc PP 121 args h fun o h' => ∃ v, o = .ret v ∧ h' = h ∧ K v := by
 unfold inQ at hl
 split at hl
 ·exact Ys Zv rfl (ZaU _ _ _ _ rfl) (fun u hu => hu ▸ hl)
 ·exact hl.elim
theorem Z0k (args : List AV) (h : Z5) (K : AV → Prop) (hl : inQ args h K) : Zc PP 49 args h fun o h' => ∃ v, o = .ret v ∧ h' = h ∧ K v := by
 unfold inQ at hl
 split at hl
 ·exact Ys Zv rfl (ZaV _ _ _ _ rfl) (fun u hu => hu ▸ hl)
 ·exact hl.elim
noncomputable def Z3T (G : Zf) : Zf := (((G.withP 53 inQ).withP 67 inQ).withP 121 inQ).withP 49 inQ
noncomputable def Za6 : Zf := Z3T G0
theorem Z4y : Za6.Ok := Zf.withP_ok (Zf.withP_ok (Zf.withP_ok (Zf.withP_ok Zv Z1W) Z0i) Z0j) Z0k
theorem ZbN (p : Z9) (b : Bool) (hb : b = Vr p) :
  evF Za6 20 56 [.agg p.c] ⟨0, []⟩ (Yn (fun v => v = .bool b)) := by
 refine @Eq.mpr _ (let q1 := AV.bool false = AV.bool b;
 Z0 (decide (0 ≤ p.id ∧ p.id ≤ 2147483647)) (Z0 (decide (1 ≤ p.amount ∧ p.amount ≤ 1125899906842624)) (AV.bool (decide (1 ≤ p.expiry ∧ p.expiry ≤ 2147483647)) = AV.bool b) q1) q1) (by kernel_rfl) ?_
 conv => zeta
 subst hb
 unfold Vr
 generalize decide (0 ≤ p.id ∧ p.id ≤ 2147483647) = c1
 generalize decide (1 ≤ p.amount ∧ p.amount ≤ 1125899906842624) = c2
 generalize decide (1 ≤ p.expiry ∧ p.expiry ≤ 2147483647) = c3
 cases c1 <;> cases c2 <;> cases c3 <;> rfl
def Z3U : ZQ := fun args _ K => match args with
 | [.agg [.bool ow, .int .i64 id, .int .i64 am, .arr .u8 32 ha, .int .i64 ex, .int .i64 st, .int .i64 en, .arr .u8 32 se]] => K (.bool (Vr ⟨ow, id, am, ha, ex, st, en, se⟩))
 | _ => False
theorem Z5q (args : List AV) (h : Z5) (K : AV → Prop) (hl : Z3U args h K) : Zc PP 56 args h fun o h' => ∃ v, o = .ret v ∧ h' = h ∧ K v := by
 unfold Z3U at hl
 split at hl
 ·exact Ys Z4y rfl (ZbN ⟨_, _, _, _, _, _, _, _⟩ _ rfl) (fun u hu => hu ▸ hl)
 ·exact hl.elim
end Go.Tk
end
section
namespace Go.Tk
open IntKind (i64 u8 u32 u64 wrap)
theorem X6 (L : List Z9) (i : Nat) : YD (Ze L i) = true := rfl
theorem ZW {k : Nat} {τ : Ren} {n : Nat} {L : List Z9} {f : Nat → List AV} (h : ∀ i, i < n → f i = Ze L i) : Y3 k τ n (Ze L) f :=
 Z5n h (fun i _ => X6 L i) (fun i _ v hv => by
  simp only [Ze, Z9.c, List.mem_cons, List.not_mem_nil, or_false] at hv
  rcases hv with rfl | rfl | rfl | rfl | rfl | rfl | rfl | rfl <;> first | exact .inl rfl | exact .inr ⟨_, _, _, rfl⟩)
theorem Z3V {f : Nat → List AV} {O : List Z9} {x : Z9} {c i : Nat} (hc : O.length = c) (hf : ∀ i, i < c → f i = Ze O i) (hi : i < c + 1) : Wb c f (US (Z9.c x) 0 70) i = Ze (O ++ [x]) i := by
 rcases Nat.lt_or_ge i c with h | h
 ·rw [Z4w h, hf i h]
  unfold Ze
  rw [List.getD_eq_getElem?_getD, List.getD_eq_getElem?_getD, List.getElem?_append_left (by omega)]
 ·have e : i = c := by omega
  subst e
  rw [Z1T (Nat.le_refl _), Nat.sub_self]
  unfold Ze
  rw [List.getD_eq_getElem?_getD, List.getElem?_append_right (by omega), hc, Nat.sub_self]
  rfl
theorem Zx.evV {G : Zf} (hG : G.Ok) {n : Nat} {f : FuncId} {args : List AV} {v : AV} (h : evF G n f args ⟨0, []⟩ (Yn fun u => u = v)) : Zx G.P f args v 0 [] := by
 intro E w rs he hr
 refine (Uk hG h E w rs he hr).mono ?_
 rintro e w' ⟨E₁, o, h', hK0, hev, hor⟩
 cases hor with
 | panic u r hr => exact hK0.elim
 | ret u r hr =>
  unfold Yn at hK0
  simp only at hK0
  split at hK0
  ·rename_i hu
   subst hK0
   refine ⟨E, r, rfl, ⟨.refl E, ⟨he.fresh, fun x B hx => by simp [Z5.get, Zw] at hx, fun x B hx => by simp [Z5.get, Zw] at hx, fun x y B B' b N N' hx => by simp [Z5.get, Zw] at hx, fun a c hi => hev.emb.imm a c (hev.le.imm a c hi), fun a c x B N _ hx => by simp [Z5.get, Zw] at hx⟩, hev.size, hev.os, hev.tape, hev.output, hev.keep, fun b hb => ?_, fun _ _ h => h⟩, Z8.vplain (E := E₁) (E' := E) (fun a c hi => hev.imm a c hi) _ _ hu hr⟩
   obtain ⟨x, B, N, hx, _⟩ := hb
   simp [Z5.get, Zw] at hx
  ·exact hK0.elim
def Z3W (b : Bool) (x : Z9) : List Z9 := match b with
 | true => [x]
 | false => []
theorem Uw {p : Z9 → Bool} {L : List Z9} {i : Nat} (hi : i < L.length) : (L.take (i + 1)).filter p = (L.take i).filter p ++ Z3W (p (L.getD i Zd)) (L.getD i Zd) := by
 rw [List.take_succ_eq_append_getElem hi, List.filter_append, List.getD_eq_getElem?_getD, List.getElem?_eq_getElem hi]
 congr 1
theorem Z74 (x y : Prop) : Z0 true x y = x := rfl
theorem Z75 (x y : Prop) : Z0 false x y = y := rfl
theorem Ux (c x y : Bool) (v : AV) : Z0 c (AV.bool x = v) (AV.bool y = v) = (AV.bool (cond c x y) = v) := by cases c <;> rfl
theorem Z76 (c : Bool) (k : IntKind) (x y : Int) (v : AV) : Z0 c (AV.int k x = v) (AV.int k y = v) = (AV.int k (cond c x y) = v) := by cases c <;> rfl
inductive LV (cs : List AV) (X : Za) : Prop where
 | a (h : cs = X.c (.vrows 70 X.L.length (Ze X.L) X.L.length))
 | b (h1 : X.L = []) (h : cs = X.c .nilslice)
def YI (X : Za) : Prop := 0 ≤ X.side ∧ X.side ≤ 1
structure Z2M (X : Za) : Prop where
 n : X.L.length < 1000
 am : ∀ h ∈ X.L, 0 ≤ h.amount ∧ h.amount ≤ 1125899906842624
 a0 : -1152921504606846976 ≤ X.a0 ∧ X.a0 ≤ 1152921504606846976
 a1 : -1152921504606846976 ≤ X.a1 ∧ X.a1 ≤ 1152921504606846976
 res : 0 ≤ X.res ∧ X.res ≤ 1152921504606846976
 fee : 0 ≤ X.t.fee ∧ X.t.fee ≤ 1152921504606846976
def Z77 (H : List Int → List Int) : ZQ := fun args h K => ZI none h true 20 args fun a => match a with
 | [.pview cs 0, .agg [.bool ow, .int .i64 id, .int .i64 am, .arr .u8 32 ha, .int .i64 ex, .int .i64 st, .int .i64 en, .arr .u8 32 se]] => ∃ X, LV cs X ∧ Z9.Ok ⟨ow, id, am, ha, ex, st, en, se⟩ ∧ K (.bool (Xb H X ⟨ow, id, am, ha, ex, st, en, se⟩))
 | _ => False
def Za7 : ZQ := fun args _ K => match args with
 | [.agg [.bool ow, .int .i64 id, .int .i64 am, .arr .u8 32 ha, .int .i64 ex, .int .i64 st, .int .i64 en, .arr .u8 32 se], .agg [.bool ow', .int .i64 id', .int .i64 am', .arr .u8 32 ha', .int .i64 ex', .int .i64 st', .int .i64 en', .arr .u8 32 se']] => K (.bool (decide (Wt ⟨ow, id, am, ha, ex, st, en, se⟩ ⟨ow', id', am', ha', ex', st', en', se'⟩)))
 | _ => False
def Za8 : ZQ := fun args _ K => match args with
 | [.agg [.bool ow, .int .i64 _, .int .i64 _, .arr .u8 32 _, .int .i64 _, .int .i64 _, .int .i64 _, .arr .u8 32 _], .pview [.pview cs 0] 0, .pview [.int .i64 s] 0] => ∃ X, LV cs X ∧ YI X ∧ K (.bool (decide (Wm X.side ow = s)))
 | _ => False
def Z78 : Yz := fun args h K => ZI none h true 20 args fun a => match a with
 | [.vrows 70 n f n', .func (.func 104) [] [.pview [.pview cs 0] 0, .pview [.int .i64 s] 0]] => ∃ X, n' = n ∧ n = X.L.length ∧ f = Ze X.L ∧ LV cs X ∧ YI X ∧ n < 1000 ∧ K (.ret (.nslice ⟨h.next, 0, 70, 0, 0⟩ 70 (ZN X.side s X.L).length (ZN X.side s X.L).length)) ⟨h.next + 1, (h.next, .rows 70 (ZN X.side s X.L).length (Ze (ZN X.side s X.L))) :: h.bs⟩
 | [.nilslice, .func (.func 104) [] [.pview [.pview cs 0] 0, .pview [.int .i64 s] 0]] => ∃ X, LV cs X ∧ YI X ∧ X.L = [] ∧ K (.ret (.nslice ⟨h.next, 0, 70, 0, 0⟩ 70 (ZN X.side s X.L).length (ZN X.side s X.L).length)) ⟨h.next + 1, (h.next, .rows 70 (ZN X.side s X.L).length (Ze (ZN X.side s X.L))) :: h.bs⟩
 | _ => False
def Z1X : Yz := fun args h K => ZI none h true 20 args fun a => match a with
 | [.pview cs 0, .int .i64 s] => ∃ X, LV cs X ∧ YI X ∧ X.L.length < 1000 ∧ K (.ret (.nslice ⟨h.next, 0, 0, 0, 0⟩ 1 (ZN X.side s X.L).length (ZN X.side s X.L).length)) ⟨h.next + 1, (h.next, .ints .i64 (X4 (ZN X.side s X.L))) :: h.bs⟩
 | _ => False
def smS : ZQ := fun args h K => ZI none h true 20 args fun a => match a with
 | [.vints .i64 xs n] => n = xs.length ∧ n < 1000 ∧ (∀ x ∈ xs, 0 ≤ x ∧ x ≤ 1125899906842624) ∧ K (.int .i64 xs.sum)
 | _ => False
def Za9 : ZQ := fun args h K => ZI none h true 20 args fun a => match a with
 | [.pview cs 0, .int .i64 s] => ∃ X, LV cs X ∧ YI X ∧ (s = 0 ∨ s = 1) ∧ Z2M X ∧ K (.int .i64 (Yt X s))
 | _ => False
def ZaW (H : List Int → List Int) : ZQ := fun args h K => ZI none h true 20 args fun a => match a with
 | [.pview cs 0] => ∃ X, LV cs X ∧ X.t.Ok ∧ (∀ h ∈ X.L, h.Ok) ∧ X.L.length < 1000 ∧ K (.bool (ZV H X))
 | _ => False
def Z9h : ZQ := fun args h K => ZI none h true 20 args fun a => match a with
 | [.int .i64 s, .pview [.pview cs 0] 0] => ∃ X, LV cs X ∧ YI X ∧ X.L.length < 1000 ∧ K (.bool (decide ((ZN X.side s X.L).length ≤ 8)))
 | _ => False
theorem Zg.last {E : Env} {v v' : AV} (hv : ∀ k m xs, v ≠ .arr k m xs) (hc : v'.isCell = true) (h : ∀ c, Z8 E v c → Z8 E v' c) : ∀ {l : List AV} {vs : List Value}, Zg E (l ++ [v]) vs → Zg E (l ++ [v']) vs
 | [], vs, hl => by
  obtain ⟨c, w, rfl, h0, h2, h3, ht⟩ := hl.cons_cell hv
  exact .one _ _ _ _ hc h2 (h _ h3) ht
 | a :: r, vs, hl => by
  by_cases ha : ∃ k m xs, a = .arr k m xs
  ·obtain ⟨k, m, xs, rfl⟩ := ha
   obtain ⟨w, rfl, ht⟩ := Zg.cons_arr (r := r ++ [v]) hl
   exact .arr _ _ _ _ _ (Zg.last hv hc h ht)
  ·obtain ⟨c, w, rfl, h0, h2, h3, ht⟩ := Zg.cons_cell (r := r ++ [v]) hl (fun k m xs e => ha ⟨k, m, xs, e⟩)
   exact .one _ _ _ _ h0 h2 h3 (Zg.last hv hc h ht)
theorem Za.c_eq (X : Za) (l : AV) : X.c l = (X.t.c ++ [.int .i64 X.side, .int .i64 X.res, .arr .i64 2 [X.a0, X.a1], .arr .i64 2 [X.i0, X.i1]]) ++ [l] := by unfold Za.c; simp
theorem Z4z {cs : List AV} {X : Za} (h : LV cs X) {E : Env} {vs : List Value} (hc : Zg E cs vs) : Zg E (X.c (.vrows 70 X.L.length (Ze X.L) X.L.length)) vs := by
 rcases h with rfl | ⟨h1, rfl⟩
 ·exact hc
 ·rw [Za.c_eq] at *
  refine Zg.last (by intros; simp) rfl (fun c hc => ?_) hc
  cases hc
  rw [h1]
  exact .vrowsNil _ _ _ _ rfl rfl
def XN (X : Za) : AV := .pview (X.c (.vrows 70 X.L.length (Ze X.L) X.L.length)) 0
theorem Xu {cs : List AV} {X : Za} (h : LV cs X) {E : Env} {r : Value} (hc : Z8 E (.pview cs 0) r) : Z8 E (XN X) r := by
 cases hc with
 | pview cs inn a vs hc hi => exact .pview _ 0 a vs (Z4z h hc) hi
theorem Z1Y {cs : List AV} {X : Za} (h : LV cs X) {E : Env} {r : Value} (hc : Z8 E (.pview [.pview cs 0] 0) r) : Z8 E (.pview [XN X] 0) r := by
 cases hc with
 | pview cs inn a vs hc hi =>
  obtain ⟨c, w1, rfl, h0, h2, h3, hc⟩ := hc.cons_cell (by intros; simp)
  cases hc
  exact .pview _ 0 a _ (.one _ _ _ _ rfl h2 (Xu h h3) .nil) hi
end Go.Tk
end
section
namespace Go.Tk
open IntKind (i64 u8 u32 u64 wrap)
noncomputable def ZaX (H1 : List Int → List Int) (H2 : List Int → List Int → List Int) (B : Nat) : Zf := (Z3T (G8 H1 H2 B)).withP 56 Z3U
theorem Z8s : (ZaX Y0 Z3J 1000).Ok := Zf.withP_ok (Zf.withP_ok (Zf.withP_ok (Zf.withP_ok (Zf.withP_ok (ZaJ 1000 (by decide)) Z1W) Z0i) Z0j) Z0k) Z5q
theorem Z79 (x k : Int) (A B : Bool) : (if x = k then A else B) = cond (x == k) A B := by
 by_cases h : x = k
 ·simp [h]
 ·rw [if_neg h, show (x == k) = false from by simpa using h]; rfl
theorem Zaa (x k : Int) : decide (x ≥ k) = !decide (x < k) := by by_cases h : x < k <;> simp [h] <;> omega
theorem ZbO (X : Za) (p : Z9) (b : Bool) (H1 : List Int → List Int) (H2 : List Int → List Int → List Int) (B : Nat) (hok : p.Ok) (hB : 32 ≤ B) (hl : (H1 p.secret).length = 32) (hb : b = Xb H1 X p) :
  evF (ZaX H1 H2 B) 20 76 [XN X, .agg p.c] ⟨0, []⟩ (Yn (fun v => v = .bool b)) := by
 refine @Eq.mpr _ (let q1 := p.secret;
 let q2 := List.length q1;
 let q3 := p.fin;
 let q4 := p.stage;
 let q5 := p.own;
 let q6 := p.id;
 let q7 := p.hash;
 let q8 := Vr (Z9.mk q5 q6 p.amount q7 p.expiry q4 q3 q1);
 let q9 := decide (q6 = q6);
 let q10 := decide (q6 < X.i0);
 let q11 := decide (1 ≤ q4 ∧ q4 ≤ 9);
 let q12 := AV.bool b;
 let q13 := AV.bool false = q12;
 let q14 := Z0 q11 (AV.bool (q1 == ZG) = q12) q13;
 let q15 := decide (q6 < X.i1);
 let q16 := Z0 q8 (Z0 q5 (Z0 q9 (Z0 q10 q14 q13) False) (Z0 q9 (Z0 q15 q14 q13) False)) q13;
 let q17 := Z0 q11 q13 q13;
 let q18 := Z0 q8 (Z0 q5 (Z0 q9 (Z0 q10 q17 q13) False) (Z0 q9 (Z0 q15 q17 q13) False)) q13;
 let q19 := decide (q4 ≥ 6);
 let q20 := H1 q1;
 let q21 := Z0 q11 (AV.bool (q20 == q7) = q12) q13;
 Z0 (decide (q2 = 32 ∧ (32 : Nat) = 32)) (Z0 (q3 == 0) (Z0 (decide (q4 < 6)) q16 q18) (Z0 (q3 == 1) (Z0 q19 (q7 = q7 ∧ Z0 (decide (q2 = 32)) (Z0 (decide (32 = q2)) (Z0 (decide (q2 ≤ B)) (Z0 (decide (List.length q20 = 32 ∧ List.length q7 = 32)) (Z0 q8 (Z0 q5 (Z0 q9 (Z0 q10 q21 q13) False) (Z0 q9 (Z0 q15 q21 q13) False)) q13) False) False) False) False) q18) (Z0 (q3 == 2) (Z0 q19 q16 q18) q18))) False) (by kernel_rfl) ?_
 conv => zeta
 have e0 : Z9.mk p.own p.id p.amount p.hash p.expiry p.stage p.fin p.secret = p := rfl
 rw [e0]
 subst hb
 simp only [hok.secret, hok.hash, hl, decide_true, and_self, Z74, true_and, decide_eq_true hB, Ux]
 congr 1
 unfold Xb Z73 Za.nx
 simp only [Z79, show (6 ≤ p.stage) = (p.stage ≥ 6) from rfl, Zaa]
 have es : (H1 p.secret == p.hash) = (H1 p.secret == p.hash) := rfl
 generalize (H1 p.secret == p.hash) = ch
 generalize (p.secret == ZG) = cz
 generalize Vr p = c1
 generalize decide (p.stage < 6) = c6
 generalize decide (1 ≤ p.stage ∧ p.stage ≤ 9) = d2
 generalize (p.fin == 0) = f0
 generalize (p.fin == 1) = f1
 generalize (p.fin == 2) = f2
 cases p.own
 ·simp only
  generalize decide (p.id < X.i0) = d0
  generalize decide (p.id < X.i1) = d1
  cases f0 <;> cases f1 <;> cases f2 <;> cases c6 <;> cases d1 <;> cases d2 <;> simp
 ·simp only
  generalize decide (p.id < X.i0) = d0
  generalize decide (p.id < X.i1) = d1
  cases f0 <;> cases f1 <;> cases f2 <;> cases c6 <;> cases d0 <;> cases d2 <;> simp
theorem Z5r (args : List AV) (h : Z5) (K : AV → Prop) (hl : Z77 Y0 args h K) : Zc PP 76 args h fun o h' => ∃ v, o = .ret v ∧ h' = h ∧ K v := by
 refine Zx.psumm (d := 20) (Zq _ _ _ _ _ hl fun a ha => ?_)
 split at ha
 ·obtain ⟨X, hX, ho, hK⟩ := ha
  exact ⟨_, (Zx.evV Z8s (ZbO X ⟨_, _, _, _, _, _, _, _⟩ _ _ _ _ ho (by decide) (Z6J _) rfl)).conv (fun E r hr => hr.head (fun _ hc => Xu hX hc) fun _ hc => hc), fun _ => rfl, hK⟩
 ·exact ha.elim
end Go.Tk
end
section
namespace Go.Tk
open IntKind (i64 u8 u32 u64 wrap)
theorem ZbP (s : Int) : (if 5 < s then 5 else s) = min s 5 := by split <;> omega
theorem ZbQ (p q : Z9) (b : Bool) (hb : b = decide (Wt p q)) :
  evF Za6 20 77 [.agg p.c, .agg q.c] ⟨0, []⟩ (Yn (fun v => v = .bool b)) := by
 refine @Eq.mpr _ (let q1 := q.own;
 let q2 := p.id;
 let q3 := q2 != q2;
 let q4 := q.id;
 let q5 := q4 != q4;
 let q6 := AV.bool b;
 let q7 := AV.bool false = q6;
 let q8 := Z0 (!p.own == q1) (AV.bool true = q6) (AV.bool (decide ((if 5 < p.stage then 5 else p.stage) ≥ if 5 < q.stage then 5 else q.stage)) = q6);
 let q9 := decide (q2 < q4);
 let q10 := decide (q2 > q4);
 let q11 := Z0 q10 q7 q7;
 let q12 := Z0 q3 (Z0 q5 q7 q8) (Z0 q5 q7 (Z0 q9 q8 q11));
 Z0 p.own (Z0 q1 q12 (Z0 q3 (Z0 q5 q8 q8) (Z0 q5 q8 (Z0 q9 q8 (Z0 q10 q8 q8))))) (Z0 q1 (Z0 q3 (Z0 q5 q7 q7) (Z0 q5 q7 (Z0 q9 q7 q11))) q12)) (by kernel_rfl) ?_
 conv => zeta
 subst hb
 simp only [bne_self_eq_false, Z75, Ux, ZbP]
 congr 1
 refine Bool.eq_iff_iff.2 (Iff.trans (b := Wt p q) ?_ decide_eq_true_iff.symm)
 unfold Wt
 cases p.own <;> cases q.own <;> by_cases h1 : p.id < q.id <;> by_cases h2 : q.id < p.id <;> simp [h1, h2]
theorem ZaY (X : Za) (p : Z9) (s : Int) (b : Bool) (hX : YI X) (hb : b = decide (Wm X.side p.own = s)) :
  evF G0 20 104 [.agg p.c, .pview [XN X] 0, .pview [.int .i64 s] 0] ⟨0, []⟩ (Yn (fun v => v = .bool b)) := by
 refine @Eq.mpr _ (let q1 := decide (s = s);
 Z0 p.own (Z0 q1 (AV.bool (X.side == s) = AV.bool b) False) (Z0 q1 (AV.bool (wrap i64 (1 - X.side) == s) = AV.bool b) False)) (by kernel_rfl) ?_
 conv => zeta
 obtain ⟨h1, h2⟩ := hX
 rw [decide_eq_true (rfl : s = s), w64 (by omega)]
 subst hb
 unfold Wm
 simp only [Z74, Ux]
 cases p.own <;> rfl
theorem Z8t (args : List AV) (h : Z5) (K : AV → Prop) (hl : Za7 args h K) : Zc PP 77 args h fun o h' => ∃ v, o = .ret v ∧ h' = h ∧ K v := by
 unfold Za7 at hl
 split at hl
 ·exact Ys Z4y rfl (ZbQ ⟨_, _, _, _, _, _, _, _⟩ ⟨_, _, _, _, _, _, _, _⟩ _ rfl) (fun u hu => hu ▸ hl)
 ·exact hl.elim
end Go.Tk
end
section
namespace Go.Tk
open IntKind (i64 u8 u32 u64 wrap)
theorem Z8u (args : List AV) (h : Z5) (K : AV → Prop) (hl : Za8 args h K) : Zc PP 104 args h fun o h' => ∃ v, o = .ret v ∧ h' = h ∧ K v := by
 unfold Za8 at hl
 split at hl
 ·rename_i ow id am ha ex st en se cs s
  obtain ⟨X, hX, hs, hK⟩ := hl
  have := Ys (h := h) Zv rfl (ZaY X ⟨ow, id, am, ha, ex, st, en, se⟩ s _ hs rfl) (fun u hu => hu ▸ hK)
  exact this.conv fun E r hr => hr.head (fun _ hc => hc) fun _ hr => hr.head (fun _ hc => Z1Y hX hc) fun _ hc => hc
 ·exact hl.elim
noncomputable def Zab : Zf := G0.withP 104 Za8
theorem Z8v : Zab.Ok := Zf.withP_ok Zv Z8u
def svC (X : Za) (s : Int) : AV := .func (.func 104) [] [.pview [XN X] 0, .pview [.int .i64 s] 0]
def svS (X : Za) (s : Int) (n i c : Nat) (O : List Z9) : St := ⟨22, [(9, .int .i64 i), (8, .int .i64 n), (7, .vrows 70 n (Ze X.L) n), (1, svC X s), (4, .nslice ⟨0, 0, 70, 0, 0⟩ 70 c c)], ⟨1, [(0, .rows 70 c (Ze O))]⟩, []⟩
def svE (c : Nat) (O : List Z9) : St := ⟨22, [(4, .nslice ⟨0, 0, 70, 0, 0⟩ 70 c c)], ⟨1, [(0, .rows 70 c (Ze O))]⟩, []⟩
theorem ZbR (X : Za) (s : Int) (n i c c1 : Nat) (O O1 : List Z9) (Z1 Z2 : Prop) (hn : n < 1000) (hL : X.L.length = n) (hi : i ≤ n) (hO : O.length = c) (hci : c ≤ i) (hX : YI X) (h1 : i < n → O1 = O ++ Z3W (decide (Wm X.side (X.L.getD i Zd).own = s)) (X.L.getD i Zd)) (hc1 : c1 = O1.length) (hZ1 : i < n → Z1) (hZ2 : i = n → Z2) :
  Ym Zab 20 103 0 0 (svS X s n i c O) (rdM 0 0 9 (svS X s n (i + 1) c1 O1) (svE c O) (svE c O) (svE c O) Z1 Z2 False False) := by
 refine @Eq.mpr _ (let q1 := X.L;
 let q2 := List.length q1;
 let q3 := Ze q1;
 let q4 := Za.c X (AV.vrows 70 q2 q3 q2);
 let q5 := List.getD q1 (Int.toNat (↑i : Int)) Zd;
 let q6 := q5.own;
 let q7 := decide (c = c);
 let q8 := c + 1;
 let q9 := decide (wrap i64 ((↑i : Int) + 1) = (↑(i + 1) : Int));
 let q10 := decide ((↑n : Int) = (↑n : Int));
 let q11 := decide (n = n);
 let q12 := q3 = q3;
 let q13 := [AV.pview q4 0];
 let q14 := q13 = q13;
 let q15 := [AV.int i64 s];
 let q16 := q15 = q15;
 let q17 := decide (q8 = c1);
 let q18 := Ze O;
 let q19 := decide (c = c1);
 let q20 := [(0, 0)];
 Z0 (decide ((↑i : Int) < (↑n : Int)))
 (Z0 (decide (0 ≤ (↑i : Int) ∧ (↑i : Int) < (↑n : Int)))
 (∃ (X : Za),
 let q41 := X.side;
 LV q4 X ∧ (0 ≤ q41 ∧ q41 ≤ 1) ∧ Z0 (decide (Wm q41 q6 = s)) (Z0 q7 (Z0 (decide (q8 * 112 ≤ 140737488355328)) (Z0 q9 (Z0 q10 (Z0 q11 (q12 ∧ Z0 q11 (q14 ∧ q16 ∧ Z0 q17 (Z0 (decide (c1 ≤ q8)) (Z0 q17 (Y3 0 [(0, 3)] c1 (Ze O1) (Wb c q18 (US [AV.bool q6, AV.int i64 q5.id, AV.int i64 q5.amount, AV.arr u8 32 q5.hash, AV.int i64 q5.expiry, AV.int i64 q5.stage, AV.int i64 q5.fin, AV.arr u8 32 q5.secret] 0 70)) ∧ Z1) False) False) False) False) False) False) False) False) False) (Z0 q9 (Z0 q10 (Z0 q11 (q12 ∧ Z0 q11 (q14 ∧ q16 ∧ Z0 q19 (Z0 (decide (c1 ≤ c)) (Z0 q19 (Y3 0 q20 c1 (Ze O1) q18 ∧ Z1) False) False) False) False) False) False) False))
 False)
 (Z0 q7 (Z0 (decide (c ≤ c)) (Z0 q7 (Y3 0 q20 c q18 q18 ∧ Z2) False) False) False)) (by kernel_rfl) ?_
 conv => zeta
 try simp only [Zk]
 try simp only [Zn]
 try simp only [Zl]
 try simp only [Zo]
 try simp only [Zp]
 try simp only [Zi]
 try simp only [Int.toNat_natCast, Nat.zero_add, true_and, and_true, Nat.le_refl]
 refine ⟨fun hc => ?_, fun hc => ⟨ZW fun _ _ => rfl, hZ2 (by omega)⟩⟩
 have hlt : i < n := by omega
 have h1 := h1 hlt
 have hwr : i64.wrap ((i : Int) + 1) = ((i + 1 : Nat) : Int) := by rw [w64 (by omega)]; omega
 refine ⟨by omega, X, .a rfl, hX, fun hd => ?_, fun hd => ?_⟩
 ·rw [decide_eq_true hd] at h1
  have hl : c1 = c + 1 := by rw [hc1, h1]; simp [Z3W, hO]
  subst hl
  subst h1
  have hR : Y3 0 [(0, 3)] (c + 1) (Ze (O ++ Z3W true (X.L.getD i Zd))) (Wb c (Ze O) (US (X.L.getD i Zd).c 0 70)) := ZW fun j hj => Z3V hO (fun _ _ => rfl) hj
  repeat' apply And.intro
  all_goals first | omega | exact hwr | exact hR | exact hZ1 hlt | rfl
 ·rw [decide_eq_false hd] at h1
  have hl : c1 = c := by rw [hc1, h1]; simp [Z3W, hO]
  subst hl
  simp only [Z3W, List.append_nil] at h1
  subst h1
  repeat' apply And.intro
  all_goals first | omega | exact hwr | exact ZW fun _ _ => rfl | exact hZ1 hlt | rfl
def WT (X : Za) (s : Int) (i : Nat) : List Z9 := ZN X.side s (X.L.take i)
theorem Z5s (X : Za) (s : Int) {i : Nat} (hi : i < X.L.length) : WT X s (i + 1) = WT X s i ++ Z3W (decide (Wm X.side (X.L.getD i Zd).own = s)) (X.L.getD i Zd) := Uw hi
theorem Z8w (X : Za) (s : Int) (i : Nat) : (WT X s i).length ≤ i := by
 refine Nat.le_trans (List.length_filter_le _ _) ?_
 rw [List.length_take]; omega
theorem Z7a (X : Za) (s : Int) : WT X s X.L.length = ZN X.side s X.L := by unfold WT; rw [List.take_length]
noncomputable def Z9i (X : Za) (s : Int) (n : Nat) : Zf := Zab.withL 103 0 (goM 0 (svS X s n 0 0 []) (X.L.length = n ∧ n < 1000 ∧ YI X) (W6 0 n 9 (fun i => i < n) (fun i => i = n) (fun _ => False) (fun _ => False) (fun i => svE (WT X s i).length (WT X s i)) (fun i => svE (WT X s i).length (WT X s i)) (fun i => svE (WT X s i).length (WT X s i))))
theorem Z2N (X : Za) (s : Int) (n : Nat) : (Z9i X s n).Ok :=
 Zf.withGoM (N := 20) (S := fun i => svS X s n i (WT X s i).length (WT X s i)) Z8v (by kernel_rfl) fun hC => ⟨by simp [WT, ZN], fun i hi _ => by
  obtain ⟨h1, h2, h3⟩ := hC
  exact ZbR X s n i _ _ _ _ (i < n ∧ i < n) (i = n) h2 h1 hi rfl (Z8w X s i) h3 (fun h => Z5s X s (by omega)) rfl (fun h => ⟨h, h⟩) (fun h => h)⟩
theorem ZaZ (X : Za) (s : Int) (n c : Nat) (O : List Z9) (hL : X.L.length = n) (hn : n < 1000) (hX : YI X) (hO : O = ZN X.side s X.L) (hc : c = O.length) :
  evF (Z9i X s n) 20 103 [.vrows 70 n (Ze X.L) n, svC X s] ⟨0, []⟩ (YK 0 (.ret (.nslice ⟨0, 0, 70, 0, 0⟩ 70 c c)) 1 [(0, .rows 70 c (Ze O))]) := by
 refine @Eq.mpr _ (let q1 := decide (n = n);
 let q2 := Ze X.L;
 let q3 := List.length X.L;
 let q4 := [AV.pview (Za.c X (AV.vrows 70 q3 q2 q3)) 0];
 let q5 := [AV.int i64 s];
 Z0 (decide ((↑n : Int) = (↑n : Int)))
 (Z0 q1
 (q2 = q2 ∧
 Z0 q1
 (q4 = q4 ∧
 q5 = q5 ∧
 (q3 = n ∧ n < 1000 ∧ 0 ≤ X.side ∧ X.side ≤ 1) ∧
 ∀ (i : Nat),
 let q11 := List.length (WT X s i);
 let q12 := decide (q11 = c);
 let q13 := Z0 q12 (Z0 (decide (c ≤ q11)) (Z0 q12 (Y3 0 [(0, 0)] c (Ze O) (Ze (WT X s i)) ∧ True) False) False) False;
 i ≤ n → (∀ (j : Nat), j < i → (fun (i : Nat) => i < n) j) → (i = n → q13) ∧ (False → q13) ∧ (False → False))
 False)
 False)
 False) (by kernel_rfl) ?_
 conv => zeta
 try simp only [Zk]
 try simp only [Zn]
 try simp only [Zl]
 try simp only [Zo]
 try simp only [Zp]
 try simp only [Zi]
 try simp only [Int.toNat_natCast, Nat.zero_add, true_and, and_true, Nat.le_refl]
 have ha : WT X s n = O := by rw [← hL, Z7a, hO]
 repeat' apply And.intro
 all_goals first | rfl | exact hL | exact hn | exact hX.1 | exact hX.2 | skip
 intro i hi _
 refine ⟨fun he => ?_, fun h => h.elim, fun h => h.elim⟩
 subst he
 rw [ha]
 subst hc
 repeat' apply And.intro
 all_goals first | omega | rfl | exact ZW fun _ _ => rfl
theorem Z5t (args : List AV) (h : Z5) (K : KO) (hl : Z78 args h K) : Zc PP 103 args h K := by
 refine Zx.fsumm (d := 20) (Zq _ _ _ _ _ hl fun a ha => ?_)
 split at ha
 ·obtain ⟨X, rfl, h1, rfl, hX, hs, h2, hK⟩ := ha
  refine ⟨_, _, _, _, (Zx.evM (Z2N X _ _) (ZaZ X _ _ _ _ h1.symm h2 hs rfl rfl)).conv fun E r hr => hr.head (fun _ hc => hc) fun _ hr => hr.head (fun _ hc => ?_) fun _ hc => hc, rfl, ⟨Nat.one_pos, .rows _ _ _ (fun i _ => X6 _ i), trivial⟩, hK⟩
  cases hc with
  | func fn fi ca fs cs h3 h4 => exact .func _ _ _ _ _ h3 (h4.head (fun _ hc => Z1Y hX hc) fun _ hc => hc)
 ·obtain ⟨X, hX, hs, h1, hK⟩ := ha
  refine ⟨_, _, _, _, (Zx.evM (Z2N X _ 0) (ZaZ X _ 0 _ _ (by rw [h1]; rfl) (by omega) hs rfl rfl)).conv fun E r hr => hr.head (fun _ hc => ?_) fun _ hr => hr.head (fun _ hc => ?_) fun _ hc => hc, rfl, ⟨Nat.one_pos, .rows _ _ _ (fun i _ => X6 _ i), trivial⟩, hK⟩
  ·cases hc; exact .vrowsNil _ _ _ _ rfl rfl
  ·cases hc with
   | func fn fi ca fs cs h3 h4 => exact .func _ _ _ _ _ h3 (h4.head (fun _ hc => Z1Y hX hc) fun _ hc => hc)
 ·exact ha.elim
noncomputable def Z7b : Zf := G0.withF 103 Z78
theorem Z7c : Z7b.Ok := Zf.withF_ok Zv Z5t
def Z8x (n i : Nat) (O : List Z9) : St := ⟨26, [(14, .int .i64 i), (13, .int .i64 n), (12, .nslice ⟨0, 0, 70, 0, 0⟩ 70 n n), (4, .nslice ⟨1, 0, 0, 0, 0⟩ 1 i i)], ⟨2, [(0, .rows 70 n (Ze O)), (1, .ints .i64 (X4 (O.take i)))]⟩, []⟩
def Z5u (i : Nat) (O : List Z9) : St := ⟨26, [(4, .nslice ⟨0, 0, 0, 0, 0⟩ 1 i i)], ⟨1, [(0, .ints .i64 (X4 (O.take i)))]⟩, []⟩
theorem ZbS (n i : Nat) (O : List Z9) (Z1 Z2 : Prop) (hn : n < 1000) (hL : O.length = n) (hi : i ≤ n) (hZ1 : i < n → Z1) (hZ2 : i = n → Z2) :
  Ym Z7b 20 58 0 0 (Z8x n i O) (rdM 0 0 9 (Z8x n (i + 1) O) (Z5u i O) (Z5u i O) (Z5u i O) Z1 Z2 False False) := by
 refine @Eq.mpr _ (let q1 := 0 + Int.toNat (↑i : Int);
 let q2 := X4 (List.take i O);
 let q3 := q2 ++ [(List.getD O q1 Zd).amount];
 let q4 := List.length q3;
 let q5 := i + 1;
 let q6 := decide (n = n);
 Z0 (decide ((↑i : Int) < (↑n : Int))) (Z0 (decide (0 ≤ (↑i : Int) ∧ (↑i : Int) < (↑n : Int))) (Z0 (decide (q1 < n)) (Z0 (decide (i64 = i64 ∧ List.length q2 = i)) (Z0 (decide (q4 * 8 ≤ 140737488355328)) (Z0 (decide (wrap i64 ((↑i : Int) + 1) = (↑q5 : Int))) (Z0 (decide ((↑n : Int) = (↑n : Int))) (Z0 q6 (Z0 (decide (n ≤ n)) (Z0 (decide (q4 = q5)) (Z0 (decide (q5 ≤ q4)) (Z0 q6 (Y3 0 [(1, 4), (0, 0)] n (Ze O) (Ze O) ∧ q3 = X4 (List.take q5 O) ∧ Z1) False) False) False) False) False) False) False) False) False) False) False) (Z0 (decide (i = i)) (Z0 (decide (i ≤ i)) (q2 = q2 ∧ Z2) False) False)) (by kernel_rfl) ?_
 conv => zeta
 try simp only [Zk]
 try simp only [Zn]
 try simp only [Zl]
 try simp only [Zo]
 try simp only [Zp]
 try simp only [Zi]
 try simp only [Int.toNat_natCast, Nat.zero_add, true_and, and_true, Nat.le_refl]
 have hl : (X4 (O.take i)).length = i := by unfold X4; rw [List.length_map, List.length_take]; omega
 refine ⟨fun hc => ?_, fun hc => hZ2 (by omega)⟩
 have hlt : i < n := by omega
 have hwr : i64.wrap ((i : Int) + 1) = ((i + 1 : Nat) : Int) := by rw [w64 (by omega)]; omega
 have ht : X4 (O.take (i + 1)) = X4 (O.take i) ++ [(O.getD i Zd).amount] := by
  unfold X4
  rw [List.take_succ_eq_append_getElem (by omega), List.map_append, List.getD_eq_getElem?_getD, List.getElem?_eq_getElem (by omega)]
  rfl
 have hl2 : (X4 (O.take i) ++ [(O.getD i Zd).amount]).length = i + 1 := by simp [hl]
 repeat' apply And.intro
 all_goals first | omega | exact hwr | exact ZW fun _ _ => rfl | exact ht.symm | exact hZ1 hlt | rfl
noncomputable def Z9j (O : List Z9) (n : Nat) : Zf := Z7b.withL 58 0 (goM 0 (Z8x n 0 O) (O.length = n ∧ n < 1000) (W6 0 n 9 (fun i => i < n) (fun i => i = n) (fun _ => False) (fun _ => False) (fun i => Z5u i O) (fun i => Z5u i O) (fun i => Z5u i O)))
theorem Z7d (O : List Z9) (n : Nat) : (Z9j O n).Ok :=
 Zf.withGoM (N := 20) (S := fun i => Z8x n i O) Z7c (by kernel_rfl) fun hC => ⟨rfl, fun i hi _ => ZbS n i O (i < n ∧ i < n) (i = n) hC.2 hC.1 hi (fun h => ⟨h, h⟩) (fun h => h)⟩
theorem Z4A (side s : Int) (L : List Z9) : (ZN side s L).length ≤ L.length := List.length_filter_le _ _
theorem ZbT (X : Za) (s : Int) (c : Nat) (O : List Z9) (xs : List Int) (hn : X.L.length < 1000) (hX : YI X) (hO : O = ZN X.side s X.L) (hc : c = O.length) (hx : xs = X4 O) :
  evF (Z9j O c) 20 58 [XN X, .int .i64 s] ⟨0, []⟩ (YK 0 (.ret (.nslice ⟨0, 0, 0, 0, 0⟩ 1 c c)) 1 [(0, .ints .i64 xs)]) := by
 refine @Eq.mpr _ (let q1 := List.length X.L;
 let q2 := Ze X.L;
 ∃ (X_1 : Za),
 let q5 := X_1.L;
 let q6 := X_1.side;
 let q7 := ZN q6 s q5;
 let q8 := List.length q7;
 let q9 := decide (q8 = c);
 q1 = q1 ∧
 q1 = List.length q5 ∧
 q2 = Ze q5 ∧
 LV (Za.c X (AV.vrows 70 q1 q2 q1)) X_1 ∧
 (0 ≤ q6 ∧ q6 ≤ 1) ∧
 q1 < 1000 ∧
 Z0 (decide ((↑q8 : Int) = (↑c : Int)))
 (Z0 q9
 (Z0 (decide (c ≤ q8))
 (Z0 q9
 (Y3 0 [(0, 2)] c (Ze O) (Ze q7) ∧
 X4 (List.take 0 O) = [] ∧
 (List.length O = c ∧ c < 1000) ∧
 ∀ (i : Nat),
 let q15 := Z0 (decide (i = c)) (Z0 (decide (c ≤ i)) (X4 (List.take i O) = xs ∧ True) False) False;
 i ≤ c → (∀ (j : Nat), j < i → (fun (i : Nat) => i < c) j) → (i = c → q15) ∧ (False → q15) ∧ (False → False))
 False)
 False)
 False)
 False) (by kernel_rfl) ?_
 conv => zeta
 try simp only [Zk]
 try simp only [Zn]
 try simp only [Zl]
 try simp only [Zo]
 try simp only [Zp]
 try simp only [Zi]
 try simp only [Int.toNat_natCast, Nat.zero_add, true_and, and_true, Nat.le_refl]
 subst hx
 have hle := Z4A X.side s X.L
 refine ⟨X, ?_⟩
 rw [← hO]
 repeat' apply And.intro
 all_goals first | rfl | exact .a rfl | exact hX.1 | exact hX.2 | exact hn | exact hc.symm | (rw [hc]; done) | (rw [hc, hO]; omega) | exact ZW fun _ _ => rfl | skip
 intro i hi _
 refine ⟨fun he => ?_, fun h => h.elim, fun h => h.elim⟩
 rw [he, hc, List.take_length]
 exact ⟨rfl, Nat.le_refl _, rfl⟩
theorem Uy (args : List AV) (h : Z5) (K : KO) (hl : Z1X args h K) : Zc PP 58 args h K := by
 refine Zx.fsumm (d := 20) (Zq _ _ _ _ _ hl fun a ha => ?_)
 split at ha
 ·obtain ⟨X, hX, hs, h1, hK⟩ := ha
  exact ⟨_, _, _, _, (Zx.evM (Z7d _ _) (ZbT X _ _ _ _ h1 hs rfl rfl rfl)).conv fun E r hr => hr.head (fun _ hc => Xu hX hc) fun _ hc => hc, rfl, ⟨Nat.one_pos, .ints _ _, trivial⟩, hK⟩
 ·exact ha.elim
def Z4B (xs : List Int) (n i : Nat) (a : Int) : St := ⟨16, [(7, .int .i64 i), (6, .int .i64 n), (5, .vints .i64 xs n), (2, .int .i64 a)], ⟨0, []⟩, []⟩
def Z1b (a : Int) : St := ⟨16, [(2, .int .i64 a)], ⟨0, []⟩, []⟩
theorem ZbU (xs : List Int) (n i : Nat) (a a1 : Int) (Z1 Z2 : Prop) (hn : n < 1000) (hL : xs.length = n) (hi : i ≤ n) (h1 : i < n → a1 = i64.wrap (a + xs.getD i 0)) (hZ1 : i < n → Z1) (hZ2 : i = n → Z2) :
  Ym G0 20 105 0 0 (Z4B xs n i a) (rdM 0 0 9 (Z4B xs n (i + 1) a1) (Z1b a) (Z1b a) (Z1b a) Z1 Z2 False False) := by
 refine @Eq.mpr _ (Z0 (decide ((↑i : Int) < (↑n : Int))) (Z0 (decide (0 ≤ (↑i : Int) ∧ (↑i : Int) < (↑n : Int))) (Z0 (decide (wrap i64 ((↑i : Int) + 1) = (↑(i + 1) : Int))) (Z0 (decide ((↑n : Int) = (↑n : Int))) (xs = xs ∧ Z0 (decide (n = n)) (Z0 (decide (wrap i64 (a + List.getD xs (Int.toNat (↑i : Int)) 0) = a1)) Z1 False) False) False) False) False) (Z0 (decide (a = a)) Z2 False)) (by kernel_rfl) ?_
 try simp only [Zk]
 try simp only [Zn]
 try simp only [Zl]
 try simp only [Zo]
 try simp only [Zp]
 try simp only [Zi]
 try simp only [Int.toNat_natCast, Nat.zero_add, true_and, and_true, Nat.le_refl]
 refine ⟨fun hc => ?_, fun hc => hZ2 (by omega)⟩
 have hlt : i < n := by omega
 have hwr : i64.wrap ((i : Int) + 1) = ((i + 1 : Nat) : Int) := by rw [w64 (by omega)]; omega
 have h1 := h1 hlt
 repeat' apply And.intro
 all_goals first | omega | exact hwr | exact h1.symm | exact hZ1 hlt | rfl
def Z0l (xs : List Int) : Nat → Int
 | 0 => 0
 | i + 1 => i64.wrap (Z0l xs i + xs.getD i 0)
theorem Z1c {xs : List Int} (h : ∀ x ∈ xs, 0 ≤ x ∧ x ≤ 1125899906842624) : 0 ≤ xs.sum ∧ xs.sum ≤ 1125899906842624 * xs.length := by
 induction xs with
 | nil => simp
 | cons a r ih =>
  have h1 := h a (by simp)
  have h2 := ih fun x hx => h x (by simp [hx])
  simp only [List.sum_cons, List.length_cons]
  omega
theorem Z4C {xs : List Int} (hn : xs.length < 1000) (h : ∀ x ∈ xs, 0 ≤ x ∧ x ≤ 1125899906842624) : ∀ i, i ≤ xs.length → Z0l xs i = (xs.take i).sum
 | 0, _ => by simp [Z0l]
 | i + 1, hi => by
  have ih := Z4C hn h i (by omega)
  have hb := Z1c (xs := xs.take (i + 1)) fun x hx => h x (List.mem_of_mem_take hx)
  have e : (xs.take (i + 1)).sum = (xs.take i).sum + xs.getD i 0 := by
   rw [List.take_succ_eq_append_getElem (by omega), List.sum_append, List.getD_eq_getElem?_getD, List.getElem?_eq_getElem (by omega)]
   simp
  have hl : (xs.take (i + 1)).length ≤ 1000 := by rw [List.length_take]; omega
  unfold Z0l
  rw [ih, ← e, w64 (by omega)]
noncomputable def Z9k (xs : List Int) (n : Nat) : Zf := G0.withL 105 0 (goM 0 (Z4B xs n 0 0) (xs.length = n ∧ n < 1000) (W6 0 n 9 (fun i => i < n) (fun i => i = n) (fun _ => False) (fun _ => False) (fun i => Z1b (Z0l xs i)) (fun i => Z1b (Z0l xs i)) (fun i => Z1b (Z0l xs i))))
theorem Z7e (xs : List Int) (n : Nat) : (Z9k xs n).Ok :=
 Zf.withGoM (N := 20) (S := fun i => Z4B xs n i (Z0l xs i)) Zv (by kernel_rfl) fun hC => ⟨rfl, fun i hi _ => ZbU xs n i _ _ (i < n ∧ i < n) (i = n) hC.2 hC.1 hi (fun _ => rfl) (fun h => ⟨h, h⟩) (fun h => h)⟩
theorem ZbV (xs : List Int) (n : Nat) (r : Int) (hL : xs.length = n) (hn : n < 1000) (hr : r = Z0l xs n) :
  evF (Z9k xs n) 20 105 [.vints .i64 xs n] ⟨0, []⟩ (Yn (fun v => v = .int .i64 r)) := by
 refine @Eq.mpr _ (Z0 (decide ((↑n : Int) = (↑n : Int)))
 (xs = xs ∧
 Z0 (decide (n = n))
 ((List.length xs = n ∧ n < 1000) ∧
 ∀ (i : Nat),
 let q1 := AV.int i64 (Z0l xs i) = AV.int i64 r;
 i ≤ n → (∀ (j : Nat), j < i → (fun (i : Nat) => i < n) j) → (i = n → q1) ∧ (False → q1) ∧ (False → False))
 False)
 False) (by kernel_rfl) ?_
 conv => zeta
 try simp only [Zk]
 try simp only [Zn]
 try simp only [Zl]
 try simp only [Zo]
 try simp only [Zp]
 try simp only [Zi]
 try simp only [Int.toNat_natCast, Nat.zero_add, true_and, and_true, Nat.le_refl]
 refine ⟨⟨hL, hn⟩, fun i hi _ => ⟨fun he => ?_, fun h => h.elim, fun h => h.elim⟩⟩
 rw [he, hr]
theorem Zac (args : List AV) (h : Z5) (K : AV → Prop) (hl : smS args h K) : Zc PP 105 args h fun o h' => ∃ v, o = .ret v ∧ h' = h ∧ K v := by
 refine Zx.psumm (d := 20) (Zq _ _ _ _ _ hl fun a ha => ?_)
 split at ha
 ·rename_i xs n
  obtain ⟨h1, h2, h3, hK⟩ := ha
  have e : Z0l xs n = xs.sum := by rw [h1, Z4C (by omega) h3 _ (Nat.le_refl _), List.take_length]
  exact ⟨_, Zx.evV (Z7e _ _) (ZbV xs n _ h1.symm h2 rfl), fun _ => rfl, by rw [e]; exact hK⟩
 ·exact ha.elim
noncomputable def Z9l : Zf := (G0.withF 58 Z1X).withP 105 smS
theorem Z7f : Z9l.Ok := Zf.withP_ok (Zf.withF_ok Zv Uy) Zac
theorem ZbW (X : Za) (s : Int) (r : Int) (hs : s = 0 ∨ s = 1) (hX : YI X) (hA : Z2M X) (hr : r = Yt X s) :
  evF Z9l 20 59 [XN X, .int .i64 s] ⟨0, []⟩ (Yn (fun v => v = .int .i64 r)) := by
 refine @Eq.mpr _ (let q1 := decide (0 ≤ s ∧ s < 2);
 let q2 := 0 + Int.toNat s;
 let q3 := decide (q2 < 2);
 let q4 := decide (q2 < 2);
 let q5 := List.length X.L;
 let q6 := List.getD [X.t.fee, (0 : Int)] q2 0;
 let q7 := X.res;
 let q8 := List.getD [X.a0, X.a1] q2 0;
 Z0 q1
 (Z0 q3
 (Z0 q1
 (Z0 q4
 (∃ (X_1 : Za),
 let q17 := X_1.side;
 let q18 := ZN q17 s X_1.L;
 let q19 := List.length q18;
 let q20 := X4 q18;
 let q21 := List.take q19 (Yx 0 q20);
 LV (Za.c X (AV.vrows 70 q5 (Ze X.L) q5)) X_1 ∧ (0 ≤ q17 ∧ q17 ≤ 1) ∧ List.length X_1.L < 1000 ∧ Z0 q4 (Z0 (decide (q6 = q6)) (Z0 (decide (q7 = q7)) (Z0 q3 (Z0 (decide (q8 = q8)) (Z0 (decide (0 + q19 ≤ List.length q20)) (q19 = List.length q21 ∧ q19 < 1000 ∧ (∀ (x : Int), List.Mem x q21 → 0 ≤ x ∧ x ≤ 1125899906842624) ∧ AV.int i64 (wrap i64 (wrap i64 (wrap i64 (q8 - List.sum q21) - q7) - q6)) = AV.int i64 r) False) False) False) False) False) False)
 False)
 False)
 False)
 False) (by kernel_rfl) ?_
 conv => zeta
 obtain ⟨h1, h2, h3, h4, h5, h6⟩ := hA
 have hle := Z4A X.side s X.L
 have hb : ∀ x ∈ X4 (ZN X.side s X.L), 0 ≤ x ∧ x ≤ 1125899906842624 := fun x hx => by
  obtain ⟨z, hz, rfl⟩ := List.mem_map.1 hx
  exact h2 z ((List.mem_filter.1 hz).1)
 have hl : (X4 (ZN X.side s X.L)).length = (ZN X.side s X.L).length := List.length_map _
 have hsum := Z1c hb
 have e : List.take (ZN X.side s X.L).length (Yx 0 (X4 (ZN X.side s X.L))) = X4 (ZN X.side s X.L) := by rw [Yg, List.drop_zero, ← hl, List.take_length]
 try simp only [Zk]
 try simp only [Zn]
 try simp only [Zl]
 try simp only [Zo]
 try simp only [Zp]
 try simp only [Zi]
 try simp only [Int.toNat_natCast, Nat.zero_add, true_and, and_true, Nat.le_refl]
 repeat' first | apply And.intro | refine Exists.intro X ?_
 all_goals try rw [e]
 all_goals first | omega | rfl | exact .a rfl | exact hX.1 | exact hX.2 | exact hb | skip
 rw [hr]
 unfold Yt Za.am
 generalize (X4 (ZN X.side s X.L)).sum = q at *
 congr 1
 rcases hs with rfl | rfl
 ·simp only [Int.toNat_zero, List.getD_cons_zero, if_true]
  have e2 : i64.wrap (X.a0 - q) = X.a0 - q := w64 (by omega)
  have e3 : i64.wrap (X.a0 - q - X.res) = X.a0 - q - X.res := w64 (by omega)
  rw [e2, e3, w64 (by omega)]
 ·have e1 : (1 : Int).toNat = 1 := rfl
  simp only [e1, List.getD_cons_succ, List.getD_cons_zero, show ¬ (1 : Int) = 0 by decide, if_false]
  have e2 : i64.wrap (X.a1 - q) = X.a1 - q := w64 (by omega)
  have e3 : i64.wrap (X.a1 - q - X.res) = X.a1 - q - X.res := w64 (by omega)
  rw [e2, e3, w64 (by omega)]
theorem Z4D (args : List AV) (h : Z5) (K : AV → Prop) (hl : Za9 args h K) : Zc PP 59 args h fun o h' => ∃ v, o = .ret v ∧ h' = h ∧ K v := by
 refine Zx.psumm (d := 20) (Zq _ _ _ _ _ hl fun a ha => ?_)
 split at ha
 ·obtain ⟨X, hX, hs, h1, h2, hK⟩ := ha
  exact ⟨_, (Zx.evV Z7f (ZbW X _ _ h1 hs h2 rfl)).conv fun E r hr => hr.head (fun _ hc => Xu hX hc) fun _ hc => hc, fun _ => rfl, hK⟩
 ·exact ha.elim
end Go.Tk
end
section
namespace Go.Tk
open IntKind (i64 u8 u32 u64 wrap)
noncomputable def Z9m : Zf := G0.withF 58 Z1X
theorem Z7g : Z9m.Ok := Zf.withF_ok Zv Uy
theorem Zb0 (X : Za) (s : Int) (b : Bool) (hX : YI X) (hn : X.L.length < 1000) (hb : b = decide ((ZN X.side s X.L).length ≤ 8)) :
  evF Z9m 20 74 [.int .i64 s, .pview [XN X] 0] ⟨0, []⟩ (Yn (fun v => v = .bool b)) := by
 refine @Eq.mpr _ (let q1 := List.length X.L;
 ∃ (X_1 : Za),
 let q3 := X_1.side;
 LV (Za.c X (AV.vrows 70 q1 (Ze X.L) q1)) X_1 ∧ (0 ≤ q3 ∧ q3 ≤ 1) ∧ List.length X_1.L < 1000 ∧ AV.bool (decide ((↑(List.length (ZN q3 s X_1.L)) : Int) ≤ 8)) = AV.bool b) (by kernel_rfl) ?_
 conv => zeta
 subst hb
 refine ⟨X, .a rfl, hX, hn, ?_⟩
 congr 1
 rw [Bool.eq_iff_iff, decide_eq_true_iff, decide_eq_true_iff]
 omega
theorem Z7h (args : List AV) (h : Z5) (K : AV → Prop) (hl : Z9h args h K) : Zc PP 74 args h fun o h' => ∃ v, o = .ret v ∧ h' = h ∧ K v := by
 refine Zx.psumm (d := 20) (Zq _ _ _ _ _ hl fun a ha => ?_)
 split at ha
 ·obtain ⟨X, hX, hs, hn, hK⟩ := ha
  exact ⟨_, (Zx.evV Z7g (Zb0 X _ _ hs hn rfl)).conv fun E r hr => hr.head (fun _ hc => hc) fun _ hr => hr.head (fun _ hc => Z1Y hX hc) fun _ hc => hc, fun _ => rfl, hK⟩
 ·exact ha.elim
noncomputable def Z8y (H1 : List Int → List Int) : Zf := (G0.withP 76 (Z77 H1)).withP 77 Za7
theorem Z8z : (Z8y Y0).Ok := Zf.withP_ok (Zf.withP_ok Zv Z5r) Z8t
noncomputable def Z7i (H1 : List Int → List Int) (X : Za) (n : Nat) : Zf := ((((Z3T (Z8y H1)).withP 75 Z71).withP 74 Z9h).withP 59 Za9).withF 58 Z1X
theorem Z7j {H1 : List Int → List Int} (h0 : (Z8y H1).Ok) (X : Za) (n : Nat) : (Z7i H1 X n).Ok := Zf.withF_ok (Zf.withP_ok (Zf.withP_ok (Zf.withP_ok (Zf.withP_ok (Zf.withP_ok (Zf.withP_ok (Zf.withP_ok h0 Z1W) Z0i) Z0j) Z0k) Z72) Z7h) Z4D) Uy
def rgS (X : Za) (n i : Nat) : St := ⟨140, [(99, .int .i64 i), (98, .int .i64 n), (97, .vrows 70 n (Ze X.L) n), (1, .ptr (some ⟨0, 0, 0, 0, 0⟩))], ⟨1, [(0, .flat [XN X])]⟩, []⟩
def rgE (X : Za) : St := ⟨140, [(1, .ptr (some ⟨0, 0, 0, 0, 0⟩))], ⟨1, [(0, .flat [XN X])]⟩, []⟩
def rgF : St := ⟨140, [(2, .bool false)], ⟨0, []⟩, []⟩
theorem ZbX (X : Za) (n i : Nat) (H1 : List Int → List Int) (Z1 Z2 Z3 : Prop) (hn : n < 1000) (hL : X.L.length = n) (hi : i ≤ n) (hok : ∀ h ∈ X.L, h.Ok) (h1 : i < n → YT H1 X i = true → Z1) (h2 : i = n → Z2) (h3 : i < n → YT H1 X i = false → Z3) :
  Ym (Z7i H1 X n) 20 30 0 0 (rgS X n i) (rdM 0 0 9 (rgS X n (i + 1)) (rgE X) rgF rgF Z1 Z2 Z3 False) := by
 refine @Eq.mpr _ (let q1 := X.L;
 let q2 := List.length q1;
 let q3 := Ze q1;
 let q4 := Za.c X (AV.vrows 70 q2 q3 q2);
 let q5 := List.getD q1 (Int.toNat (↑i : Int)) Zd;
 let q6 := Z9.mk q5.own q5.id q5.amount q5.hash q5.expiry q5.stage q5.fin q5.secret;
 let q7 := wrap i64 ((↑i : Int) - 1);
 let q8 := List.getD q1 (Int.toNat q7) Zd;
 let q9 := decide (n = n);
 let q10 := q4 = q4;
 let q11 := Z0 (decide (wrap i64 ((↑i : Int) + 1) = (↑(i + 1) : Int))) (Z0 (decide ((↑n : Int) = (↑n : Int))) (Z0 q9 (q3 = q3 ∧ Z0 q9 (q10 ∧ Z1) False) False) False) False;
 Z0 (decide ((↑i : Int) < (↑n : Int))) (Z0 (decide (0 ≤ (↑i : Int) ∧ (↑i : Int) < (↑n : Int))) (∃ (X : Za), LV q4 X ∧ Z9.Ok q6 ∧ Z0 (!Xb H1 X q6) Z3 (Z0 (decide ((↑i : Int) > 0)) (Z0 (decide (0 ≤ q7 ∧ q7 < (↑q2 : Int))) (Z0 (!decide (Wt (Z9.mk q8.own q8.id q8.amount q8.hash q8.expiry q8.stage q8.fin q8.secret) q6)) Z3 q11) False) q11)) False) (q10 ∧ Z2)) (by kernel_rfl) ?_
 conv => zeta
 try simp only [Zk]
 try simp only [Zn]
 try simp only [Zl]
 try simp only [Zo]
 try simp only [Zp]
 try simp only [Zi]
 try simp only [Int.toNat_natCast, Nat.zero_add, true_and, and_true, Nat.le_refl]
 have e0 : ∀ p : Z9, Z9.mk p.own p.id p.amount p.hash p.expiry p.stage p.fin p.secret = p := fun _ => rfl
 simp only [e0]
 refine ⟨fun hc => ?_, fun hc => h2 (by omega)⟩
 have hlt : i < n := by omega
 have hwr : i64.wrap ((i : Int) + 1) = ((i + 1 : Nat) : Int) := by rw [w64 (by omega)]; omega
 have hw1 : 0 < i → i64.wrap ((i : Int) - 1) = ((i - 1 : Nat) : Int) := fun h => by rw [w64 (by omega)]; omega
 have hx : (X.L.getD i Zd).Ok := hok _ (ZU (by omega))
 refine ⟨by omega, X, .a rfl, hx, fun hu => h3 hlt ?_, fun hu => ?_⟩
 ·have hu : Xb H1 X (X.L.getD i Zd) = false := by simpa using hu
  unfold YT
  rw [hu]; rfl
 have hu : Xb H1 X (X.L.getD i Zd) = true := by simpa using hu
 refine ⟨fun hp => ?_, fun hp => ?_⟩
 ·have hp : 0 < i := by omega
  rw [hw1 hp, Int.toNat_natCast]
  refine ⟨by omega, fun hf => h3 hlt ?_, fun hf => ?_⟩
  ·have hf : decide (Wt (X.L.getD (i - 1) Zd) (X.L.getD i Zd)) = false := by simpa using hf
   unfold YT
   rw [hu, hf, Zu (by omega : i ≠ 0)]; rfl
  ·have hf : decide (Wt (X.L.getD (i - 1) Zd) (X.L.getD i Zd)) = true := by simpa using hf
   have hb : YT H1 X i = true := by
    unfold YT
    rw [hu, hf]; simp
   repeat' apply And.intro
   all_goals first | omega | exact hwr | exact h1 hlt hb | rfl
 ·have hb : YT H1 X i = true := by
   unfold YT
   rw [hu, show i = 0 by omega]; rfl
  repeat' apply And.intro
  all_goals first | omega | exact hwr | exact h1 hlt hb | rfl
noncomputable def Z9n (H1 : List Int → List Int) (X : Za) (n : Nat) : Zf := (Z7i H1 X n).withL 30 0 (goM 0 (rgS X n 0) (n < 1000 ∧ X.L.length = n ∧ ∀ h ∈ X.L, h.Ok) (W6 0 n 9 (fun i => YT H1 X i = true ∧ i < n) (fun i => i = n) (fun i => i < n ∧ YT H1 X i = false) (fun _ => False) (fun _ => rgE X) (fun _ => rgF) (fun _ => rgF)))
theorem Z7k {H1 : List Int → List Int} (h0 : (Z8y H1).Ok) (X : Za) (n : Nat) : (Z9n H1 X n).Ok := by
 exact Zf.withGoM (N := 20) (S := fun i => rgS X n i) (Z7j h0 X n) (by kernel_rfl) fun hC => ⟨rfl, fun i hi _ => ZbX X n i _ _ _ _ hC.1 hC.2.1 hi hC.2.2 (fun h h' => ⟨⟨h', h⟩, h⟩) (fun h => h) (fun h h' => ⟨h, h'⟩)⟩
end Go.Tk
end
section
namespace Go.Tk
open IntKind (i64 u8 u32 u64 wrap)
theorem ZX {t : ZY} (h : YS t = true) : (0 ≤ t.index ∧ t.index ≤ 23) ∧ (1000 ≤ t.cap ∧ t.cap ≤ 1125899906842624) ∧ (1 ≤ t.dust ∧ t.dust ≤ 500) ∧ (0 ≤ t.fee ∧ t.fee ≤ 400) ∧ (1 ≤ t.delay ∧ t.delay ≤ 1000) := by
 unfold YS at h
 simp only [Bool.and_eq_true, decide_eq_true_eq] at h
 omega
theorem Z4E {H : List Int → List Int} {X : Za} (hn : X.L.length < 1000) (h1 : YS X.t = true) (h3 : 0 ≤ X.res ∧ X.res ≤ X.t.cap / 10) (h4 : 0 ≤ X.a0 ∧ X.a0 ≤ X.t.cap) (h5 : X.a1 = X.t.cap - X.a0) (hl : ∀ h ∈ X.L, Xb H X h = true) : Z2M X := by
 have hb := ZX h1
 refine ⟨hn, fun h hh => ?_, by omega, by omega, by omega, by omega⟩
 have := hl h hh
 unfold Xb Vr at this
 simp only [Bool.and_eq_true, decide_eq_true_eq] at this
 omega
theorem ZbY (X : Za) (n : Nat) (H1 : List Int → List Int) (b : Bool) (hL : X.L.length = n) (hn : n < 1000) (ht : X.t.Ok) (hok : ∀ h ∈ X.L, h.Ok) (hb : b = ZV H1 X) :
  evF (Z9n H1 X n) 20 30 [XN X] ⟨0, []⟩ (Yn (fun v => v = .bool b)) := by
 refine @Eq.mpr _ (let q1 := X.t;
 let q2 := q1.cap;
 let q3 := ZY.mk q1.fund q1.index q2 q1.dust q1.fee q1.delay q1.k0 q1.k1;
 let q4 := AV.bool b;
 let q5 := AV.bool false = q4;
 let q6 := X.a0;
 let q7 := X.L;
 let q8 := List.length q7;
 let q9 := Ze q7;
 let q10 := Za.c X (AV.vrows (70 : Nat) q8 q9 q8);
 let q11 := decide (q8 = n);
 ZY.Ok q3 ∧
 Z0 ((if YS q3 = true then (0 : Int) else (2 : Int)) != (0 : Int)) q5
 (Z0 (!decide ((0 : Int) ≤ X.side ∧ X.side ≤ (1 : Int))) q5
 (Z0 (!decide ((0 : Int) ≤ X.res ∧ X.res ≤ wrap i64 (Int.tdiv q2 (10 : Int)))) q5
 (Z0 (!decide ((0 : Int) ≤ q6 ∧ q6 ≤ q2)) q5
 (Z0 (X.a1 != wrap i64 (q2 - q6)) q5
 (Z0 (!decide ((0 : Int) ≤ X.i0 ∧ X.i0 ≤ (2147483648 : Int))) q5
 (Z0 (!decide ((0 : Int) ≤ X.i1 ∧ X.i1 ≤ (2147483648 : Int))) q5
 (∃ (X_1 : Za),
 let q23 := X_1.side;
 LV q10 X_1 ∧
 ((0 : Int) ≤ q23 ∧ q23 ≤ (1 : Int)) ∧
 List.length X_1.L < (1000 : Nat) ∧
 Z0 (!decide (List.length (ZN q23 (0 : Int) X_1.L) ≤ (8 : Nat))) q5
 (∃ (X_2 : Za),
 let q25 := X_2.side;
 LV q10 X_2 ∧
 ((0 : Int) ≤ q25 ∧ q25 ≤ (1 : Int)) ∧
 List.length X_2.L < (1000 : Nat) ∧
 Z0 (!decide (List.length (ZN q25 (1 : Int) X_2.L) ≤ (8 : Nat))) q5
 (Z0 (decide ((↑q8 : Int) = (↑n : Int)))
 (Z0 q11
 (q9 = q9 ∧
 Z0 q11
 (q10 = q10 ∧
 (n < (1000 : Nat) ∧ q8 = n ∧ ∀ (h : Z9), List.Mem h q7 → Z9.Ok h) ∧
 ∀ (i : Nat),
 i ≤ n →
 (∀ (j : Nat), j < i → (fun (i : Nat) => YT H1 X i = true ∧ i < n) j) →
 (i = n →
 ∃ (X : Za),
 LV q10 X ∧
 ((0 : Int) ≤ X.side ∧ X.side ≤ (1 : Int)) ∧
 ((0 : Int) = (0 : Int) ∨ (0 : Int) = (1 : Int)) ∧
 Z2M X ∧
 Z0 (decide (Yt X (0 : Int) ≥ (0 : Int)))
 (∃ (X : Za),
 let q27 := X.side;
 LV q10 X ∧ ((0 : Int) ≤ q27 ∧ q27 ≤ (1 : Int)) ∧ List.length X.L < (1000 : Nat) ∧ Z0 ((↑(List.length (ZN q27 (1 : Int) X.L)) : Int) == (0 : Int)) (AV.bool true = q4) (∃ (X : Za), LV q10 X ∧ ((0 : Int) ≤ X.side ∧ X.side ≤ (1 : Int)) ∧ ((1 : Int) = (0 : Int) ∨ (1 : Int) = (1 : Int)) ∧ Z2M X ∧ AV.bool (decide (Yt X (1 : Int) ≥ (0 : Int))) = q4))
 q5) ∧
 (i < n ∧ YT H1 X i = false → q5) ∧ (False → False))
 False)
 False)
 False)))))))))) (by kernel_rfl) ?_
 conv => zeta
 have e0 : ZY.mk X.t.fund X.t.index X.t.cap X.t.dust X.t.fee X.t.delay X.t.k0 X.t.k1 = X.t := rfl
 have no : ¬ (ZV H1 X = true) → AV.bool false = AV.bool b := fun h => by rw [hb, Bool.eq_false_iff.2 h]
 have hr := VM (H := H1) (X := X)
 have hh := Uv (X := X)
 have key : ZV H1 X = true → _ := fun h => (hh.1 (hr.1 h).1)
 have hlen : X.L.length < 1000 := by omega
 rw [e0]
 simp only [Zi]
 refine ⟨ht, fun k => no fun h => ?_, fun k1 => ?_⟩
 ·rw [(key h).1] at k; simp at k
 have k1 : YS X.t = true := by
  cases hq : YS X.t with
  | true => rfl
  | false => rw [hq] at k1; simp at k1
 have tb := ZX k1
 have td : i64.wrap (Int.tdiv X.t.cap 10) = X.t.cap / 10 := by rw [Int.tdiv_eq_ediv_of_nonneg (by omega), w64 (by omega)]
 rw [td]
 refine ⟨fun k => no fun h => ?_, fun k2 => ?_⟩
 ·have := (key h).2.1; simp at k; omega
 have k2 : 0 ≤ X.side ∧ X.side ≤ 1 := by simpa using k2
 refine ⟨fun k => no fun h => ?_, fun k3 => ?_⟩
 ·have := (key h).2.2.1; simp at k; omega
 have k3 : 0 ≤ X.res ∧ X.res ≤ X.t.cap / 10 := by simpa using k3
 refine ⟨fun k => no fun h => ?_, fun k4 => ?_⟩
 ·have := (key h).2.2.2.1; simp at k; omega
 have k4 : 0 ≤ X.a0 ∧ X.a0 ≤ X.t.cap := by simpa using k4
 have tw : i64.wrap (X.t.cap - X.a0) = X.t.cap - X.a0 := w64 (by omega)
 rw [tw]
 refine ⟨fun k => no fun h => ?_, fun k5 => ?_⟩
 ·have := (key h).2.2.2.2.1; simp at k; omega
 have k5 : X.a1 = X.t.cap - X.a0 := by simpa using k5
 refine ⟨fun k => no fun h => ?_, fun k6 => ?_⟩
 ·have := (key h).2.2.2.2.2.1; simp at k; omega
 have k6 : 0 ≤ X.i0 ∧ X.i0 ≤ 2147483648 := by simpa using k6
 refine ⟨fun k => no fun h => ?_, fun k7 => ?_⟩
 ·have := (key h).2.2.2.2.2.2.1; simp at k; omega
 have k7 : 0 ≤ X.i1 ∧ X.i1 ≤ 2147483648 := by simpa using k7
 refine ⟨X, .a rfl, k2, hlen, fun k => no fun h => ?_, fun k8 => ?_⟩
 ·have := (key h).2.2.2.2.2.2.2.1; simp at k; omega
 have k8 : (ZN X.side 0 X.L).length ≤ 8 := by simpa using k8
 refine ⟨X, .a rfl, k2, hlen, fun k => no fun h => ?_, fun k9 => ?_⟩
 ·have := (key h).2.2.2.2.2.2.2.2; simp at k; omega
 have k9 : (ZN X.side 1 X.L).length ≤ 8 := by simpa using k9
 have hhd : Z2L X = true := hh.2 ⟨k1, k2, k3, k4, k5, k6, k7, k8, k9⟩
 simp only [hL, decide_true]
 refine ⟨fun _ => ⟨fun _ => ⟨trivial, fun _ => ⟨trivial, ⟨hn, trivial, hok⟩, fun i hi hg => ⟨fun he => ?_, fun hx => no fun h => ?_, fun h => h.elim⟩⟩, fun h => by cases h⟩, fun h => by cases h⟩, fun h => by cases h⟩
 ·subst he
  have hall : ∀ j, j < X.L.length → YT H1 X j = true := fun j hj => (hg j (by omega)).1
  have hA : Z2M X := Z4E (H := H1) hlen k1 k3 k4 k5 fun h hh => by
   obtain ⟨j, hj, rfl⟩ := List.getElem_of_mem hh
   have := hall j hj
   unfold YT at this
   simp only [Bool.and_eq_true] at this
   rw [List.getD_eq_getElem?_getD, List.getElem?_eq_getElem hj] at this
   exact this.1
  refine ⟨X, .a (by rw [hL]), k2, .inl trivial, hA, fun k10 => ⟨X, .a (by rw [hL]), k2, hlen, fun k11 => ?_, fun k11 => ⟨X, .a (by rw [hL]), k2, .inr trivial, hA, ?_⟩⟩, fun k => no fun h => ?_⟩
  ·have k10 : 0 ≤ Yt X 0 := by simpa using k10
   have : ZV H1 X = true := hr.2 ⟨hhd, hall, k10, .inl (by simpa using k11)⟩
   rw [hb, this]
  ·have k10 : 0 ≤ Yt X 0 := by simpa using k10
   rw [hb]
   congr 1
   rw [Bool.eq_iff_iff, decide_eq_true_iff]
   constructor
   ·intro h; exact hr.2 ⟨hhd, hall, k10, .inr h⟩
   ·intro h
    rcases (hr.1 h).2.2.2 with h | h
    ·rw [h] at k11; simp at k11
    ·exact h
  ·have := (hr.1 h).2.2.1
   simp at k; omega
 ·have := (hr.1 h).2.1 i (by omega)
  rw [hx.2] at this; cases this
theorem Z8A (args : List AV) (h : Z5) (K : AV → Prop) (hl : ZaW Y0 args h K) : Zc PP 30 args h fun o h' => ∃ v, o = .ret v ∧ h' = h ∧ K v := by
 refine Zx.psumm (d := 20) (Zq _ _ _ _ _ hl fun a ha => ?_)
 split at ha
 ·obtain ⟨X, hX, ht, hok, hn, hK⟩ := ha
  exact ⟨_, (Zx.evV (Z7k Z8z X _) (ZbY X _ Y0 _ rfl hn ht hok rfl)).conv fun E r hr => hr.head (fun _ hc => Xu hX hc) fun _ hc => hc, fun _ => rfl, hK⟩
 ·exact ha.elim
end Go.Tk
end
section
namespace Go.Tk
open IntKind (i64 u8 u32 u64 wrap)
noncomputable def Zad (H1 : List Int → List Int) : Zf := G0.withP 30 (ZaW H1)
theorem Z4F : (Zad Y0).Ok := Zf.withP_ok Zv Z8A
def Xx (t : ZY) (side res a b : Int) : Za := ⟨t, side, res, a, b, 0, 0, []⟩
theorem ZbZ (t : ZY) (side res a b : Int) (X : Za) (H1 : List Int → List Int) (ht : t.Ok) (hX : X = Xx t side res a b) (hb : ZV H1 X = true) :
  evF (Zad H1) 20 8 [.agg t.c, .int .i64 side, .int .i64 res, .agg [.arr .i64 2 [a, b]]] ⟨0, []⟩ (YK 0 (.ret (.tuple [.ptr (some ⟨0, 0, 0, 0, 0⟩), .int .i64 0])) 2 [(0, .flat (X.c (.nslice ⟨1, 0, 70, 0, 0⟩ 70 0 0))), (1, .rows 70 0 (Ze []))]) := by
 refine @Eq.mpr _ (let q1 := [a, b];
 let q2 := [(0 : Int), 0];
 let q3 := X.t;
 ∃ (X_1 : Za), LV [AV.arr u8 32 t.fund, AV.int i64 t.index, AV.int i64 t.cap, AV.int i64 t.dust, AV.int i64 t.fee, AV.int i64 t.delay, AV.arr u8 32 t.k0, AV.arr u8 32 t.k1, AV.int i64 side, AV.int i64 res, AV.arr i64 2 q1, AV.arr i64 2 q2, AV.nilslice] X_1 ∧ ZY.Ok X_1.t ∧ (∀ (h : Z9), List.Mem h X_1.L → Z9.Ok h) ∧ List.length X_1.L < 1000 ∧ Z0 (!ZV H1 X_1) False (t.fund = q3.fund ∧ Z0 (decide (t.index = q3.index)) (Z0 (decide (t.cap = q3.cap)) (Z0 (decide (t.dust = q3.dust)) (Z0 (decide (t.fee = q3.fee)) (Z0 (decide (t.delay = q3.delay)) (t.k0 = q3.k0 ∧ t.k1 = q3.k1 ∧ Z0 (decide (side = X.side)) (Z0 (decide (res = X.res)) (q1 = [X.a0, X.a1] ∧ q2 = [X.i0, X.i1] ∧ True) False) False) False) False) False) False) False)) (by kernel_rfl) ?_
 conv => zeta
 refine ⟨X, .b (by rw [hX]; rfl) (by rw [hX]; rfl), by rw [hX]; exact ht, (by rw [hX]; intro h hh; cases hh), (by rw [hX]; exact Nat.succ_pos _), ?_⟩
 rw [hb]
 subst hX
 simp [Z0, Xx]
theorem Zc0 (t : ZY) (side res a b : Int) (X : Za) (H1 : List Int → List Int) (ht : t.Ok) (hX : X = Xx t side res a b) (hb : ZV H1 X = false) :
  evF (Zad H1) 20 8 [.agg t.c, .int .i64 side, .int .i64 res, .agg [.arr .i64 2 [a, b]]] ⟨0, []⟩ (YK 0 (.ret (.tuple [.ptr none, .int .i64 2])) 0 []) := by
 refine @Eq.mpr _ (∃ (X : Za), LV [AV.arr u8 32 t.fund, AV.int i64 t.index, AV.int i64 t.cap, AV.int i64 t.dust, AV.int i64 t.fee, AV.int i64 t.delay, AV.arr u8 32 t.k0, AV.arr u8 32 t.k1, AV.int i64 side, AV.int i64 res, AV.arr i64 2 [a, b], AV.arr i64 2 [(0 : Int), 0], AV.nilslice] X ∧ ZY.Ok X.t ∧ (∀ (h : Z9), List.Mem h X.L → Z9.Ok h) ∧ List.length X.L < 1000 ∧ Z0 (!ZV H1 X) True False) (by kernel_rfl) ?_
 refine ⟨X, .b (by rw [hX]; rfl) (by rw [hX]; rfl), by rw [hX]; exact ht, (by rw [hX]; intro h hh; cases hh), (by rw [hX]; exact Nat.succ_pos _), ?_⟩
 rw [hb]; trivial
def Z9o (H : List Int → List Int) : Yz := fun args h K => frA [] h 20 args fun Bs a => match Bs, a with
 | [], [.agg [.arr .u8 32 fu, .int .i64 ix, .int .i64 ca, .int .i64 du, .int .i64 fe, .int .i64 de, .arr .u8 32 k0, .arr .u8 32 k1], .int .i64 sd, .int .i64 rs, .agg [.arr .i64 2 [a, b]]] =>
  ZY.Ok ⟨fu, ix, ca, du, fe, de, k0, k1⟩ ∧ Z0 (ZV H (Xx ⟨fu, ix, ca, du, fe, de, k0, k1⟩ sd rs a b)) (K (.ret (.tuple [.ptr (some ⟨h.next, 0, 0, 0, 0⟩), .int .i64 0])) ⟨h.next + 2, (h.next, .flat ((Xx ⟨fu, ix, ca, du, fe, de, k0, k1⟩ sd rs a b).c (.nslice ⟨h.next + 1, 0, 70, 0, 0⟩ 70 0 0))) :: (h.next + 1, .rows 70 0 (Ze [])) :: h.bs⟩)
   (K (.ret (.tuple [.ptr none, .int .i64 2])) ⟨h.next, h.bs⟩)
 | _, _ => False
theorem Z7l (args : List AV) (h : Z5) (K : KO) (hl : Z9o Y0 args h K) : Zc PP 8 args h K := by
 refine Spec.fsumm hl fun Bs a hlen hK0 => ?_
 split at hK0
 ·obtain ⟨ht, hK⟩ := hK0
  rw [Zi] at hK
  rename_i fu ix ca du fe de k0 k1 sd rs a b
  cases hb : ZV Y0 (Xx ⟨fu, ix, ca, du, fe, de, k0, k1⟩ sd rs a b) with
  | true => exact ⟨_, _, _, _, _, .evM Z4F (ZbZ _ _ _ _ _ _ _ ht rfl hb), Nat.zero_le _, .ret _ _ rfl, .cons _ _ _ _ _ _ rfl (.flat _ _ rfl) (.cons _ _ _ _ _ _ rfl (.rows _ _ _ (fun _ _ => rfl)) .nil), hK.1 hb⟩
  | false => exact ⟨_, _, _, _, _, .evM Z4F (Zc0 _ _ _ _ _ _ _ ht rfl hb), Nat.zero_le _, .ret _ _ rfl, .nil, hK.2 hb⟩
 ·exact hK0.elim
end Go.Tk
end
section
namespace Go.Tk
open IntKind (i64 u8 u32 u64 wrap)
theorem and_mk {a b : Bool} (h1 : a = true) (h2 : b = true) : (a && b) = true := by rw [h1, h2]; rfl
end Go.Tk
end
section
namespace Go.Tk
open IntKind (i64 u8 u32 u64 wrap)
open Go.Proofs Go.Shelf Go.Lib Go.Sort
theorem Z2O {W w' : World} (h1 : W.heap.size ≤ w'.heap.size) (h2 : w'.os = W.os) (h3 : w'.tape = W.tape) (h4 : w'.output = W.output ∧ W.drawn ≤ w'.drawn) (h5 : ∀ b, b < W.heap.size → w'.heap[b]? = W.heap[b]?) : ∃ q os', w' = grow (W.drewN q) os' := by
 refine ⟨w'.drawn - W.drawn, w'.heap.extract W.heap.size w'.heap.size, ?_⟩
 obtain ⟨heap, tape, drawn, os, output⟩ := w'
 obtain ⟨heap0, tape0, drawn0, os0, output0⟩ := W
 simp only at h1 h2 h3 h4 h5
 unfold grow World.drewN
 simp only [World.mk.injEq]
 refine ⟨?_, h3, by omega, h2, h4.1⟩
 apply Array.ext_getElem?
 intro i
 rcases Nat.lt_or_ge i heap0.size with h | h
 ·rw [Array.getElem?_append_left h]; exact h5 i h
 ·rw [Array.getElem?_append_right h, Array.getElem?_extract]
  rcases Nat.lt_or_ge i heap.size with h' | h'
  ·rw [if_pos (by omega)]; congr 1; omega
  ·rw [if_neg (by omega), Array.getElem?_eq_none (by omega)]
section
variable {P : Program} {ρ : Go.Shelf.Ren} {α : Type} [Inhabited α]
theorem Z3X {g k : Nat} {c : α → List AV} {enc : α → List Value} (hc2 : ∀ E x, Zg E (c x) (enc x)) {cf : α → α → Int} (hcmp : ∀ x y, Zx P g [.agg (c x), .agg (c y)] (.int .i64 (cf x y)) 0 []) (blk off size : Nat) (w : World) :
  CmpLays P g #[] enc k cf blk off size w := by
 intro m os dk hs x y
 have E0 : Emb ⟨fun _ => none, fun _ _ => False⟩ ⟨0, []⟩ (sortWorldK enc k w blk off m dk os) :=
  ⟨fun _ _ => rfl, fun x B h => by simp [Z5.get, Zw] at h, fun x B h => by simp [Z5.get, Zw] at h, fun x y B B' b N N' h => by simp [Z5.get, Zw] at h, fun _ _ h => h.elim, fun _ _ _ _ _ h => h.elim⟩
 refine (hcmp x y _ _ [.agg (enc x).toArray, .agg (enc y).toArray] E0 (.cons _ _ _ _ (.agg _ _ (hc2 _ _)) (.cons _ _ _ _ (.agg _ _ (hc2 _ _)) .nil))).mono ?_
 rintro e w' ⟨E', r, rfl, hev, hr⟩
 cases hr
 refine ⟨rfl, Z2O hev.size hev.os hev.tape hev.output fun b hb => hev.keep b hb ?_⟩
 rintro ⟨x, B, N, hx, _⟩
 simp [Z5.get, Zw] at hx
theorem Z5v (L : SlLaysF0.n6 P ρ) {k : Nat} (aE : ∀ w, (Go.isAgg (ρ.t 24)).run P w = .ok true w) (zE : ∀ w, (Go.sizeOf (ρ.t 24)).run P w = .ok k w) {c : α → List AV} {enc : α → List Value} (hk : ∀ x, (enc x).length = k) (hk0 : 0 < k) (h1 : ∀ x, ∀ v ∈ enc x, v.oneCell' = true)
  (hc1 : ∀ E x vs, Zg E (c x) vs → vs = enc x) (hc2 : ∀ E x, Zg E (c x) (enc x)) {cf : α → α → Int} (hO : SWO (ltOf cf)) {g : Nat} (eg : ∀ args w, (callFunc g args).run P w = .ok (.enter g args) w)
  (hcmp : ∀ x y, Zx P g [.agg (c x), .agg (c y)] (.int .i64 (cf x y)) 0 []) {l L' : List α} {n lo : Nat} (hn : l.length = n) (h0 : 0 < n) (hsz : n < 4611686018427387904) {f f' : Nat → List AV} (hf0 : ∀ i, i < n → f i = c (l.getD i default)) (hf1 : ∀ i, i < n → f' i = c (L'.getD i default))
  (hL : ∀ l' : List α, l'.Perm l → l'.Pairwise (fun a b => ltOf cf b a = false) → l' = L') :
  Spec P (ρ.f 6) [.nslice ⟨0, 0, k, 0, 0⟩ k n lo, .func (.func g) [] []] ⟨1, [(0, .rows k n f)]⟩ (.ret (.tuple [])) 1 [(0, .rows k n f')] := by
 intro E w rs he hr
 cases hr with
 | cons v r vs rs hr1 hr2 =>
 cases hr2 with
 | cons v2 r2 vs2 rs2 hr2 hr3 =>
 cases hr3
 cases hr2 with
 | func fn fi ca fs cs h3 h4 =>
 cases h3
 cases h4
 cases hr1 with
 | nslice0 p esz len lo a q1 q2 => omega
 | nslice p esz len lo b N cap hb q1 q2 q3 =>
 have hB := he.own 0 _ rfl
 cases hB with
 | rows0 sz n f q0 hno => omega
 | rows sz n f b' cells elem fr gg hb' hw hfr hc hl hv =>
 rw [hb'] at hb
 cases hb
 have htot : (ZD.mk 0 0 k 0 0).tot = 0 := by simp [ZD.tot]
 rw [htot] at q3 ⊢
 have hgg : ∀ i, i < n → gg i = enc (l.getD i default) := fun i hi => by
  have := hc i hi
  rw [hf0 i hi] at this
  exact hc1 _ _ _ this
 have hcs : n * k ≤ cells.size := by
  rcases Nat.lt_or_ge cells.size (n * k) with h | h
  ·exfalso
   have e : n = (n - 1) + 1 := by omega
   have hlast : (gg (n - 1))[k - 1]? = some ((gg (n - 1))[k - 1]'(by rw [hl _ (by omega)]; omega)) := List.getElem?_eq_getElem _
   have := hv (n - 1) (k - 1) _ (by omega) hlast
   have e2 : (n - 1) * k + (k - 1) < cells.size := by
    rcases Nat.lt_or_ge ((n - 1) * k + (k - 1)) cells.size with h' | h'
    ·exact h'
    ·rw [Array.getElem?_eq_none h'] at this; cases this
   have e3 : n * k = (n - 1) * k + k := by rw [e, Nat.add_mul]; simp
   omega
  ·exact h
 have hdiv : ∀ j, j < n * k → j / k < n := fun j hj => (Nat.div_lt_iff_lt_mul hk0).2 hj
 have hH : HoldsK enc k w b 0 l.toArray := by
  intro j hj
  rw [size_flatK] at hj
  have hj : j < n * k := by simpa [hn] using hj
  have hi := hdiv j hj
  have hm : j % k < k := Nat.mod_lt _ hk0
  rw [get_flatK _ _ _ _ (by simpa [hn] using hj)]
  have e : l.toArray[j / k]! = l.getD (j / k) default := by simp [List.getD_eq_getElem?_getD]
  have hx : (gg (j / k))[j % k]? = some ((enc (l.getD (j / k) default))[j % k]!) := by
   rw [hgg _ hi]
   rw [List.getElem?_eq_getElem (by rw [hk]; exact hm)]
   simp [getElem!_pos, hk, hm]
  have hcell := hv (j / k) (j % k) _ hi hx
  have ej : j / k * k + j % k = j := by rw [Nat.mul_comm]; exact Nat.div_add_mod j k
  rw [ej] at hcell
  refine ⟨?_, ?_⟩
  ·rw [Nat.zero_add, cell_of_heap hw, hcell, e]; rfl
  ·unfold World.frozen?
   simp only [Nat.zero_add, hw]
   have := hfr j (by omega)
   rw [Bool.eq_false_iff]
   simp only [ne_eq, Bool.and_eq_true, decide_eq_true_eq]
   exact this
 have hblk : b < w.heap.size := (he.own 0 _ rfl).lt hb'
 have hcon := AnyQ.slices_SortFunc L k aE zE enc hk h1 cf hO g #[] b 0 cap l.toArray w eg (Z3X hc2 hcmp b 0 _ w) hH hblk (by simpa [hn] using hsz)
 have en : l.toArray.size = n := by simpa using hn
 rw [en] at hcon
 refine hcon.mono ?_
 rintro e w' ⟨rfl, d', m, os, hp, hs, rfl⟩
 obtain ⟨p1, _, p3⟩ := hp
 rw [en] at p1
 have pe : (d'.extract 0 n) = d' := by rw [← p1]; simp
 have pe2 : (l.toArray.extract 0 n) = l.toArray := by rw [← en]; simp
 rw [pe, pe2] at p3
 have hLd : d'.toList = L' := by
  refine hL _ p3 ?_
  rw [List.pairwise_iff_getElem]
  intro i j hi hj hij
  have := hs i j (Nat.zero_le _) hij (by simpa [p1] using hj)
  have e1 : d'[i]! = d'.toList[i] := by simp only [Array.length_toList] at hi; simp [getElem!_pos, hi]
  have e2 : d'[j]! = d'.toList[j] := by simp only [Array.length_toList] at hj; simp [getElem!_pos, hj]
  rw [e1, e2] at this
  exact this
 have hheap : (sortWorldK enc k w b 0 m d' os).heap = w.heap.modify b (onCells (putCells id 0 (flatK enc k d'))) ++ os := rfl
 have hold : ∀ i, i < w.heap.size → i ≠ b → (sortWorldK enc k w b 0 m d' os).heap[i]? = w.heap[i]? := fun i hi hib => by
  rw [hheap, Array.getElem?_append_left (by simpa using hi), Array.getElem?_modify, if_neg (fun h => hib h.symm)]
 have hnew : (sortWorldK enc k w b 0 m d' os).heap[b]? = some (.cells (putCells id 0 (flatK enc k d') cells) elem fr) := by
  rw [hheap, Array.getElem?_append_left (by simpa using hblk), Array.getElem?_modify, if_pos rfl, hw]; rfl
 have hpsz : (putCells id 0 (flatK enc k d') cells).size = cells.size := by simp [putCells]
 have hle : w.heap.size ≤ (sortWorldK enc k w b 0 m d' os).heap.size := by rw [hheap]; simp
 have hown : ∀ {H : Z5} {i : Nat}, H = ⟨1, [(0, Blk.rows k n f)]⟩ ∨ H = ⟨1, [(0, Blk.rows k n f')]⟩ → (Wq E H i ↔ i = b) := by
  intro H i hq0
  constructor
  ·rintro ⟨x, B, N, hx, hbx⟩
   have hx0 : x = 0 := by
    rcases hq0 with rfl | rfl
    ·simp only [Z5.get, Zw] at hx
     split at hx
     ·rename_i hq; exact (Nat.eq_of_beq_eq_true hq).symm
     ·cases hx
    ·simp only [Z5.get, Zw] at hx
     split at hx
     ·rename_i hq; exact (Nat.eq_of_beq_eq_true hq).symm
     ·cases hx
   subst hx0
   rw [hb'] at hbx
   cases hbx; rfl
  ·rintro rfl
   rcases hq0 with rfl | rfl <;> exact ⟨0, _, _, rfl, hb'⟩
 have hbn : ∀ a cc, E.imm a cc → a.block ≠ b := fun a cc hi hq => he.sep a cc 0 _ _ hi rfl (by rw [hb', hq])
 refine ⟨E, ⟨.refl E, ⟨he.fresh, fun x B hx => ?_, fun x B hx => ?_, fun x y B B' bb N N' hx hy _ _ => ?_, fun a cc hi => ?_, fun a cc x B N hi hx hbx => ?_⟩, hle, rfl, rfl, ⟨rfl, Nat.le_add_right _ _⟩, fun i hi hno => hold i hi (fun h => hno ((hown (.inl rfl)).2 h)), fun i ho => .inl ((hown (.inl rfl)).2 ((hown (.inr rfl)).1 ho)), fun _ _ h => h⟩, .ret _ _ (.tuple [] [] .nil)⟩
 ·simp only [Z5.get, Zw] at hx
  split at hx
  ·rename_i hq; have := Nat.eq_of_beq_eq_true hq; show x < 1; omega
  ·cases hx
 ·simp only [Z5.get, Zw] at hx
  split at hx
  ·rename_i hq
   have := Nat.eq_of_beq_eq_true hq
   subst this
   cases hx
   refine .rows k n f' b _ elem fr (fun i => enc (L'.getD i default)) (by rw [hpsz]; exact hb') hnew (fun o ho => hfr o (by rw [hpsz] at ho; exact ho)) (fun i hi => by rw [hf1 i hi]; exact hc2 _ _) (fun i hi => hk _) (fun i j cc hi hj => ?_)
   have hjk : j < k := by
    have := (List.getElem?_eq_some_iff.1 hj).1
    rw [hk] at this; exact this
   have ht : i * k + j < n * k := by
    have : (i + 1) * k ≤ n * k := Nat.mul_le_mul_right _ hi
    rw [Nat.add_mul, Nat.one_mul] at this
    omega
   unfold putCells
   rw [Array.getElem?_mapIdx, Array.getElem?_eq_getElem (by omega)]
   simp only [Option.map_some]
   rw [if_pos ⟨Nat.zero_le _, by rw [size_flatK, p1]; omega⟩, Nat.sub_zero, get_flatK _ _ _ _ (by rw [p1]; exact ht)]
   have e1 : (i * k + j) / k = i := by rw [Nat.mul_comm, Nat.mul_add_div hk0, Nat.div_eq_of_lt hjk]; rfl
   have e2 : (i * k + j) % k = j := by rw [Nat.mul_comm, Nat.mul_add_mod, Nat.mod_eq_of_lt hjk]
   rw [e1, e2]
   have e3 : d'[i]! = L'.getD i default := by
    have hid : i < d'.size := by omega
    rw [← hLd, List.getD_eq_getElem?_getD]; simp [getElem!_pos, hid]
   rw [e3]
   obtain ⟨hjl, hj2⟩ := List.getElem?_eq_some_iff.1 hj
   rw [← hj2, getElem!_pos (enc (L'.getD i default)) j hjl]; rfl
  ·cases hx
 ·simp only [Z5.get, Zw] at hx hy
  split at hx
  ·rename_i hq
   split at hy
   ·rename_i hq'
    rw [← Nat.eq_of_beq_eq_true hq, ← Nat.eq_of_beq_eq_true hq']
   ·cases hy
  ·cases hx
 ·have h0 := he.imm a cc hi
  have hlt : a.block < w.heap.size := by
   rcases Nat.lt_or_ge a.block w.heap.size with hl | hg
   ·exact hl
   ·simp [World.cell?, Array.getElem?_eq_none hg] at h0
  simpa [World.cell?, hold _ hlt (hbn a cc hi)] using h0
 ·have := (hown (H := ⟨1, [(0, .rows k n f')]⟩) (.inr rfl)).1 ⟨x, B, N, hx, hbx⟩
  exact hbn a cc hi this
end
end Go.Tk
end
section
namespace Go.Tk
open IntKind (i64 u8 u32 u64 wrap)
def Z5w : Go.Shelf.Ren := ⟨fun | 6 => 60 | 15 => 107 | 14 => 106 | 28 => 138 | 29 => 139 | 20 => 130 | 21 => 131 | 22 => 132 | 23 => 133 | 24 => 134 | 25 => 135 | 26 => 136 | 27 => 137 | 46 => 157 | 47 => 158 | 48 => 159 | 49 => 160 | 50 => 161 | 57 => 167 | n => n, fun | 22 => 55 | 24 => 99 | 25 => 117 | 3 => 3 | 39 => 163 | 0 => 0 | 53 => 179 | 55 => 203 | 4 => 4 | 46 => 195 | 45 => 194 | 50 => 199 | 5 => 5 | 9 => 9 | 66 => 218 | 70 => 222 | 76 => 231 | 77 => 232 | n => n, fun | n => n⟩
theorem Zb1 : Go.Proofs.SlLaysF0.n6 PP Z5w := {
 mixed := by kernel_rfl,
 f6 := ⟨Go.Proofs.Tryz.f60.name, by decide, Go.Proofs.Tryz.func60.trans (congrArg some (by kernel_rfl))⟩,
 f14 := ⟨Go.Proofs.Tryz.f106.name, by decide, Go.Proofs.Tryz.func106.trans (congrArg some (by kernel_rfl))⟩,
 f15 := Go.Proofs.Tryz.func107.trans (congrArg some (by kernel_rfl)),
 f20 := ⟨Go.Proofs.Tryz.f130.name, by decide, Go.Proofs.Tryz.func130.trans (congrArg some (by kernel_rfl))⟩,
 f21 := ⟨Go.Proofs.Tryz.f131.name, by decide, Go.Proofs.Tryz.func131.trans (congrArg some (by kernel_rfl))⟩,
 f22 := ⟨Go.Proofs.Tryz.f132.name, by decide, Go.Proofs.Tryz.func132.trans (congrArg some (by kernel_rfl))⟩,
 f23 := ⟨Go.Proofs.Tryz.f133.name, by decide, Go.Proofs.Tryz.func133.trans (congrArg some (by kernel_rfl))⟩,
 f24 := ⟨Go.Proofs.Tryz.f134.name, by decide, Go.Proofs.Tryz.func134.trans (congrArg some (by kernel_rfl))⟩,
 f25 := ⟨Go.Proofs.Tryz.f135.name, by decide, Go.Proofs.Tryz.func135.trans (congrArg some (by kernel_rfl))⟩,
 f26 := ⟨Go.Proofs.Tryz.f136.name, by decide, Go.Proofs.Tryz.func136.trans (congrArg some (by kernel_rfl))⟩,
 f27 := ⟨Go.Proofs.Tryz.f137.name, by decide, Go.Proofs.Tryz.func137.trans (congrArg some (by kernel_rfl))⟩,
 f28 := Go.Proofs.Tryz.func138.trans (congrArg some (by kernel_rfl)),
 f29 := Go.Proofs.Tryz.func139.trans (congrArg some (by kernel_rfl)),
 f46 := ⟨Go.Proofs.Tryz.f157.name, by decide, Go.Proofs.Tryz.func157.trans (congrArg some (by kernel_rfl))⟩,
 f47 := Go.Proofs.Tryz.func158.trans (congrArg some (by kernel_rfl)),
 f48 := Go.Proofs.Tryz.func159.trans (congrArg some (by kernel_rfl)),
 f49 := ⟨Go.Proofs.Tryz.f160.name, by decide, Go.Proofs.Tryz.func160.trans (congrArg some (by kernel_rfl))⟩,
 f50 := ⟨Go.Proofs.Tryz.f161.name, by decide, Go.Proofs.Tryz.func161.trans (congrArg some (by kernel_rfl))⟩,
 f57 := ⟨Go.Proofs.Tryz.f167.name, by decide, Go.Proofs.Tryz.func167.trans (congrArg some (by kernel_rfl))⟩,
 t0 := Go.Proofs.Tryz.underlying0,
 a0 := Go.Proofs.Tryz.isAgg0,
 z0 := Go.Proofs.Tryz.sizeOf0,
 v0 := Go.Proofs.Tryz.zeroValue0,
 t3 := Go.Proofs.Tryz.underlying3,
 a3 := Go.Proofs.Tryz.isAgg3,
 z3 := Go.Proofs.Tryz.sizeOf3,
 v3 := Go.Proofs.Tryz.zeroValue3,
 t4 := Go.Proofs.Tryz.underlying4,
 a4 := Go.Proofs.Tryz.isAgg4,
 z4 := Go.Proofs.Tryz.sizeOf4,
 v4 := Go.Proofs.Tryz.zeroValue4,
 t5 := Go.Proofs.Tryz.underlying5,
 a5 := Go.Proofs.Tryz.isAgg5,
 z5 := Go.Proofs.Tryz.sizeOf5,
 v5 := Go.Proofs.Tryz.zeroValue5,
 t9 := Go.Proofs.Tryz.underlying9,
 a9 := Go.Proofs.Tryz.isAgg9,
 z9 := Go.Proofs.Tryz.sizeOf9,
 v9 := Go.Proofs.Tryz.zeroValue9,
 t22 := Go.Proofs.Tryz.underlying55,
 a22 := Go.Proofs.Tryz.isAgg55,
 z22 := Go.Proofs.Tryz.sizeOf55,
 v22 := Go.Proofs.Tryz.zeroValue55,
 t25 := Go.Proofs.Tryz.underlying117,
 a25 := Go.Proofs.Tryz.isAgg117,
 z25 := Go.Proofs.Tryz.sizeOf117,
 v25 := Go.Proofs.Tryz.zeroValue117,
 t39 := Go.Proofs.Tryz.underlying163,
 a39 := Go.Proofs.Tryz.isAgg163,
 z39 := Go.Proofs.Tryz.sizeOf163,
 v39 := Go.Proofs.Tryz.zeroValue163,
 t45 := Go.Proofs.Tryz.underlying194,
 a45 := Go.Proofs.Tryz.isAgg194,
 z45 := Go.Proofs.Tryz.sizeOf194,
 v45 := Go.Proofs.Tryz.zeroValue194,
 t46 := Go.Proofs.Tryz.underlying195,
 a46 := Go.Proofs.Tryz.isAgg195,
 z46 := Go.Proofs.Tryz.sizeOf195,
 v46 := Go.Proofs.Tryz.zeroValue195,
 t50 := Go.Proofs.Tryz.underlying199,
 a50 := Go.Proofs.Tryz.isAgg199,
 z50 := Go.Proofs.Tryz.sizeOf199,
 v50 := Go.Proofs.Tryz.zeroValue199,
 t53 := Go.Proofs.Tryz.underlying179,
 a53 := Go.Proofs.Tryz.isAgg179,
 z53 := Go.Proofs.Tryz.sizeOf179,
 v53 := Go.Proofs.Tryz.zeroValue179,
 t55 := Go.Proofs.Tryz.underlying203,
 a55 := Go.Proofs.Tryz.isAgg203,
 z55 := Go.Proofs.Tryz.sizeOf203,
 v55 := Go.Proofs.Tryz.zeroValue203,
 t66 := Go.Proofs.Tryz.underlying218,
 a66 := Go.Proofs.Tryz.isAgg218,
 z66 := Go.Proofs.Tryz.sizeOf218,
 v66 := Go.Proofs.Tryz.zeroValue218,
 t70 := Go.Proofs.Tryz.underlying222,
 a70 := Go.Proofs.Tryz.isAgg222,
 z70 := Go.Proofs.Tryz.sizeOf222,
 v70 := Go.Proofs.Tryz.zeroValue222,
 t76 := Go.Proofs.Tryz.underlying231,
 a76 := Go.Proofs.Tryz.isAgg231,
 z76 := Go.Proofs.Tryz.sizeOf231,
 v76 := Go.Proofs.Tryz.zeroValue231,
 t77 := Go.Proofs.Tryz.underlying232,
 a77 := Go.Proofs.Tryz.isAgg232,
 z77 := Go.Proofs.Tryz.sizeOf232,
 v77 := Go.Proofs.Tryz.zeroValue232 }
end Go.Tk
end
section
namespace Go.Tk
open IntKind (i64 u8 u32 u64 wrap)
def Z5x {α : Type} (lt : α → α → Bool) (l : List α) : Prop := l.Pairwise fun a b => lt b a = false
theorem UP {α : Type} {lt : α → α → Bool} : ∀ {l m : List α}, l.Perm m → Z5x lt l → Z5x lt m → (∀ a ∈ l, ∀ b ∈ l, lt a b = false → lt b a = false → a = b) → l = m
 | [], m, hp, _, _, _ => by simpa using hp.symm
 | x :: r, [], hp, _, _, _ => by simp at hp
 | x :: r, y :: q, hp, hl, hm, hu => by
  unfold Z5x at hl hm
  rw [List.pairwise_cons] at hl hm
  have hyx : y = x := by
   by_cases e : y = x
   ·exact e
   ·have hx : x ∈ q := by
     have := hp.subset (List.mem_cons_self ..)
     rcases List.mem_cons.1 this with h | h
     ·exact absurd h.symm e
     ·exact h
    have hy : y ∈ r := by
     have := hp.symm.subset (List.mem_cons_self ..)
     rcases List.mem_cons.1 this with h | h
     ·exact absurd h e
     ·exact h
    exact hu y (List.mem_cons_of_mem _ hy) x (List.mem_cons_self ..) (hl.1 y hy) (hm.1 x hx)
  subst hyx
  rw [List.perm_cons] at hp
  rw [UP hp hl.2 hm.2 fun a ha b hb => hu a (List.mem_cons_of_mem _ ha) b (List.mem_cons_of_mem _ hb)]
end Go.Tk
end
section
namespace Go.Tk
open IntKind (i64 u8 u32 u64 wrap)
def Wn (h : Z9) : Int := match h.own with
 | true => 0
 | false => 1
def Z2P (a b : Int) : Int := if a < b then -1 else if b < a then 1 else 0
def cfH (a b : Z9) : Int := if Z2P (Wn a) (Wn b) ≠ 0 then Z2P (Wn a) (Wn b) else Z2P a.id b.id
theorem Z5y (b : Bool) (x : Prop) : Z0 b x x = x := by cases b <;> rfl
theorem Zc1 (p q : Z9) (r : Int) (hr : r = cfH p q) :
  evF G0 20 61 [.agg p.c, .agg q.c] ⟨0, []⟩ (Yn (fun v => v = .int .i64 r)) := by
 refine @Eq.mpr _ (let q1 := p.id;
 let q2 := q1 != q1;
 let q3 := q.id;
 let q4 := q3 != q3;
 let q5 := AV.int i64 r;
 let q6 := AV.int i64 0 = q5;
 let q7 := AV.int i64 (-1) = q5;
 let q8 := AV.int i64 1 = q5;
 let q9 := decide (q1 < q3);
 let q10 := decide (q1 > q3);
 let q11 := Z0 q2 (Z0 q4 q6 q7) (Z0 q4 q8 (Z0 q9 q7 (Z0 q10 q8 q6)));
 Z0 p.own (Z0 q.own q11 (Z0 q2 (Z0 q4 q7 q7) (Z0 q4 q7 (Z0 q9 q7 (Z0 q10 q7 q7))))) (Z0 q.own (Z0 q2 (Z0 q4 q8 q8) (Z0 q4 q8 (Z0 q9 q8 (Z0 q10 q8 q8)))) q11)) (by kernel_rfl) ?_
 conv => zeta
 subst hr
 simp only [bne_self_eq_false, Z75, Z5y]
 unfold cfH Wn Z2P
 simp only [Z76]
 congr 1
 cases p.own <;> cases q.own <;> by_cases h1 : p.id < q.id <;> by_cases h2 : q.id < p.id <;> simp [h1, h2]
def ltH (a b : Z9) : Bool := Go.Proofs.ltOf cfH a b
theorem Qd (a b : Z9) : ltH a b = true ↔ Wn a < Wn b ∨ (Wn a = Wn b ∧ a.id < b.id) := by
 unfold ltH Go.Proofs.ltOf cfH Z2P
 rw [decide_eq_true_iff]
 split <;> split <;> (try split) <;> (try split) <;> omega
theorem Z1Z (a b : Z9) : ltH a b = false ↔ ¬ (Wn a < Wn b ∨ (Wn a = Wn b ∧ a.id < b.id)) := by
 rw [← Qd, Bool.not_eq_true]
theorem Z8B : Go.Sort.SWO (Go.Proofs.ltOf cfH) where
 irrefl x := by rw [show Go.Proofs.ltOf cfH x x = ltH x x from rfl, Z1Z]; omega
 trans x y z h1 h2 := by
  rw [show Go.Proofs.ltOf cfH x z = ltH x z from rfl, Qd]
  have a := (Qd x y).1 h1
  have b := (Qd y z).1 h2
  omega
 ntrans x y z h1 h2 := by
  rw [show Go.Proofs.ltOf cfH x z = ltH x z from rfl, Z1Z]
  have a := (Z1Z x y).1 h1
  have b := (Z1Z y z).1 h2
  omega
def Z8C (h : Z9) : List Value := .bool h.own :: .int .i64 h.id :: .int .i64 h.amount :: (intCells .u8 32 h.hash ++ (.int .i64 h.expiry :: .int .i64 h.stage :: .int .i64 h.fin :: (intCells .u8 32 h.secret ++ [])))
theorem Z0m (E : Env) (h : Z9) : Zg E h.c (Z8C h) :=
 .one _ _ _ _ rfl rfl (.bool _) (.one _ _ _ _ rfl rfl (.int _ _) (.one _ _ _ _ rfl rfl (.int _ _) (.arr _ _ _ _ _ (.one _ _ _ _ rfl rfl (.int _ _) (.one _ _ _ _ rfl rfl (.int _ _) (.one _ _ _ _ rfl rfl (.int _ _) (.arr _ _ _ _ _ .nil)))))))
theorem Z8D (E : Env) (h : Z9) (vs : List Value) (hc : Zg E h.c vs) : vs = Z8C h := by
 unfold Z9.c at hc
 obtain ⟨c1, w0, rfl, _, _, h1, k0⟩ := hc.cons_cell (by intros; simp)
 obtain ⟨c2, w1, rfl, _, _, h2, k1⟩ := k0.cons_cell (by intros; simp)
 obtain ⟨c3, w2, rfl, _, _, h3, k2⟩ := k1.cons_cell (by intros; simp)
 obtain ⟨w3, rfl, k3⟩ := k2.cons_arr
 obtain ⟨c4, w4, rfl, _, _, h4, k4⟩ := k3.cons_cell (by intros; simp)
 obtain ⟨c5, w5, rfl, _, _, h5, k5⟩ := k4.cons_cell (by intros; simp)
 obtain ⟨c6, w6, rfl, _, _, h6, k6⟩ := k5.cons_cell (by intros; simp)
 obtain ⟨w7, rfl, k7⟩ := k6.cons_arr
 cases k7
 cases h1; cases h2; cases h3; cases h4; cases h5; cases h6
 rfl
instance : Inhabited Z9 := ⟨Zd⟩
theorem Zb2 : ∃ (E : Env), True := ⟨⟨fun _ => none, fun _ _ => False⟩, trivial⟩
theorem Z7m (h : Z9) : (Z8C h).length = 70 := by
 obtain ⟨E, _⟩ := Zb2
 have := (Z0m E h).length
 simpa [Z9.c, csz] using this
theorem Z7n (h : Z9) : ∀ v ∈ Z8C h, v.oneCell' = true := by
 obtain ⟨E, _⟩ := Zb2
 exact (Z0m E h).all_one
structure Z7o (L L' : List Z9) (n : Nat) : Prop where
 hn : L.length = n
 pos : 0 < n
 lt : n < 1000
 perm : L'.Perm L
 ord : Z5x ltH L'
 uniq : ∀ a ∈ L', ∀ b ∈ L', ltH a b = false → ltH b a = false → a = b
theorem Zae {L L' : List Z9} {n lo : Nat} {f : Nat → List AV} (hf : ∀ i, i < n → f i = Ze L i) (h : Z7o L L' n) : Spec PP 60 [.nslice ⟨0, 0, 70, 0, 0⟩ 70 n lo, .func (.func 61) [] []] ⟨1, [(0, .rows 70 n f)]⟩ (.ret (.tuple [])) 1 [(0, .rows 70 n (Ze L'))] :=
 Z5v (L := Zb1) (k := 70) Go.Proofs.Tryz.isAgg99 Go.Proofs.Tryz.sizeOf99 (c := Z9.c) Z7m (by decide) Z7n Z8D Z0m Z8B (g := 61)
  (fun _ _ => Go.Proofs.enters_of Go.Proofs.Tryz.func61 (by kernel_rfl) rfl _ _) (fun x y => Zx.evV Zv (Zc1 x y _ rfl)) h.hn h.pos (by have := h.lt; omega) hf (fun _ _ => rfl)
  (fun l' hp ho => (UP (lt := ltH) (h.perm.trans hp.symm) h.ord ho h.uniq).symm)
end Go.Tk
end
section
namespace Go.Tk
open IntKind (i64 u8 u32 u64 wrap)
theorem Zb3 (N : Nat) (L : List Z9) (hN : N + 1 < 1000000) :
  evF G0 20 44 [.vrows 70 (N + 1) (Ze L) (N + 1)] ⟨0, []⟩ (YK 0 (.ret (.nslice ⟨0, 0, 70, 0, 0⟩ 70 (N + 1) (N + 1))) 1 [(0, .rows 70 (N + 1) (Ze L))]) := by
 refine @Eq.mpr _ (let q1 := N + 1;
 let q2 := 0 + q1;
 let q3 := decide (q2 = q1);
 Z0 (decide (q2 * 112 ≤ 140737488355328)) (Z0 q3 (Z0 (decide (q1 ≤ q2)) (Z0 q3 (Y3 0 [(0, 0)] q1 (Ze L) (Wb 0 (fun (x : Nat) => []) (Ze L)) ∧ True) False) False) False) False) (by kernel_rfl) ?_
 conv => zeta
 try simp only [Zk]
 try simp only [Zn]
 try simp only [Zl]
 try simp only [Zo]
 try simp only [Zp]
 try simp only [Zi]
 try simp only [Int.toNat_natCast, Nat.zero_add, true_and, and_true, Nat.le_refl]
 repeat' apply And.intro
 all_goals first | omega | exact ZW fun i hi => by rw [Z1T (Nat.zero_le _)]; rfl
theorem Zb4 (L : List Z9)  :
  evF G0 20 44 [.nilslice] ⟨0, []⟩ (YK 0 (.ret (.nslice ⟨0, 0, 70, 0, 0⟩ 70 0 0)) 1 [(0, .rows 70 0 (Ze L))]) := by
 refine @Eq.mpr _ (True) (by kernel_rfl) ?_
 trivial
theorem Zb5 (L : List Z9)  :
  evF G0 20 44 [.fslice] ⟨0, []⟩ (YK 0 (.ret (.nslice ⟨0, 0, 70, 0, 0⟩ 70 0 0)) 1 [(0, .rows 70 0 (Ze L))]) := by
 refine @Eq.mpr _ (Y3 0 [(0, 0)] 0 (Ze L) (Wb 0 (fun (x : Nat) => []) fun (x : Nat) => []) ∧ True) (by kernel_rfl) ?_
 try simp only [Zk]
 try simp only [Zn]
 try simp only [Zl]
 try simp only [Zo]
 try simp only [Zp]
 try simp only [Zi]
 try simp only [Int.toNat_natCast, Nat.zero_add, true_and, and_true, Nat.le_refl]
 first | exact ZW fun i hi => by omega | exact ⟨ZW fun i hi => by omega, trivial⟩
theorem Z7p (N : Nat) (L : List Z9) (hN : N < 1000000) : Zx PP 44 [.vrows 70 N (Ze L) N] (.nslice ⟨0, 0, 70, 0, 0⟩ 70 N N) 1 [(0, .rows 70 N (Ze L))] := by
 cases N with
 | zero => exact Zx.vrows0 (.evM Zv (Zb4 L)) (.evM Zv (Zb5 L))
 | succ n => exact .evM Zv (Zb3 n L hN)
def Zaf : Yz := fun args h K => ZI none h true 20 args fun a => match a with
 | [.vrows 70 n f m] => ∃ L, m = n ∧ f = Ze L ∧ n < 1000000 ∧ K (.ret (.nslice ⟨h.next, 0, 70, 0, 0⟩ 70 n n)) ⟨h.next + 1, (h.next, .rows 70 n (Ze L)) :: h.bs⟩
 | _ => False
theorem Z4G (args : List AV) (h : Z5) (K : KO) (hl : Zaf args h K) : Zc PP 44 args h K := by
 refine Zx.fsumm (d := 20) (Zq _ _ _ _ _ hl fun a ha => ?_)
 split at ha
 ·obtain ⟨L, rfl, rfl, hN, hK⟩ := ha
  exact ⟨_, _, _, _, Z7p _ L hN, rfl, ⟨Nat.one_pos, .rows _ _ _ (fun i _ => X6 _ i), trivial⟩, hK⟩
 ·exact ha.elim
end Go.Tk
end
section
namespace Go.Tk
open IntKind (i64 u8 u32 u64 wrap)
end Go.Tk
end
section
namespace Go.Tk
open IntKind (i64 u8 u32 u64 wrap)
def Z2Q (a b : Z9) : Prop := Wn a < Wn b ∨ (Wn a = Wn b ∧ a.id < b.id)
theorem Z7q {a b : Z9} (h : Wt a b) : Z2Q a b := by
 unfold Wt at h
 unfold Z2Q Wn
 rcases h with ⟨h1, h2⟩ | ⟨h1, h2, _⟩
 ·rw [h1, h2]; exact .inl (by decide)
 ·rw [h1]; exact .inr ⟨rfl, h2⟩
theorem Z5z (h : Z9) : ∀ (L : List Z9), (Za5 h L).Perm (L ++ [h])
 | [] => .refl _
 | x :: r => by
  unfold Za5
  split
  ·exact (List.perm_append_comm (l₁ := [h]) (l₂ := x :: r))
  ·exact (Z5z h r).cons x
theorem Z4H {side : Int} (hs : side = 0 ∨ side = 1) : ∀ (L : List Z9), (ZN side 0 L).length + (ZN side 1 L).length = L.length
 | [] => rfl
 | x :: r => by
  have ih := Z4H hs r
  unfold ZN at *
  simp only [List.filter_cons, List.length_cons]
  have : (Wm side x.own = 0 ∧ ¬ Wm side x.own = 1) ∨ (¬ Wm side x.own = 0 ∧ Wm side x.own = 1) := by
   unfold Wm
   rcases hs with rfl | rfl <;> cases x.own <;> simp
  rcases this with ⟨h1, h2⟩ | ⟨h1, h2⟩
  ·rw [decide_eq_true h1, decide_eq_false h2]; simp; omega
  ·rw [decide_eq_false h1, decide_eq_true h2]; simp; omega
theorem Za.Inv.len {H : List Int → List Int} {X : Za} (h : X.Inv H) : X.L.length ≤ 16 := by
 have := Z4H h.side X.L
 have := h.n0
 have := h.n1
 omega
theorem Za.Inv.am {H : List Int → List Int} {X : Za} (h : X.Inv H) : Z2M X := Z4E (by have := h.len; omega) h.tb h.res h.a0 h.a1 h.und
theorem Za.Inv.less {H : List Int → List Int} {X : Za} (h : X.Inv H) : X.L.Pairwise Z2Q := h.fol.imp fun hab => Z7q hab
theorem Z0n {H : List Int → List Int} {X : Za} {h : Z9} (hu : Xb H X h = true) : Vr h = true ∧ h.id < X.nx h.own ∧ (1 ≤ h.stage ∧ h.stage ≤ 9) ∧ Z73 H h = true := by
 unfold Xb at hu
 simp only [Bool.and_eq_true, decide_eq_true_eq] at hu
 exact ⟨hu.1.1.1, hu.1.1.2, hu.1.2, hu.2⟩
end Go.Tk
end
section
namespace Go.Tk
open IntKind (i64 u8 u32 u64 wrap)
end Go.Tk
end
section
namespace Go.Tk
open IntKind (i64 u8 u32 u64 wrap)
def isP (own : Bool) (id : Int) (p : Z9) : Prop := p.own = own ∧ p.id = id
def fiE : St := ⟨19, [], ⟨0, []⟩, []⟩
def fiR (i : Nat) : St := ⟨19, [(4, .int .i64 i)], ⟨0, []⟩, []⟩
end Go.Tk
end
section
namespace Go.Tk
open IntKind (i64 u8 u32 u64 wrap)
theorem Zb6 {s : Int} (h : 1 ≤ s ∧ s ≤ 9) : s = 1 ∨ s = 2 ∨ s = 3 ∨ s = 4 ∨ s = 5 ∨ s = 6 ∨ s = 7 ∨ s = 8 ∨ s = 9 := by omega
theorem Zc2 (o : Bool) (s r : Int) (hs : 1 ≤ s ∧ s ≤ 9) (hr : r = Z0h o s) :
  evF G0 20 66 [.bool o, .int .i64 s] ⟨0, []⟩ (Yn (fun v => v = .int .i64 r)) := by
 refine @Eq.mpr _ (let q1 := AV.int i64 r;
 let q2 := AV.int i64 0 = q1;
 let q3 := decide (s = s);
 let q4 := decide (0 ≤ s ∧ s < 10);
 Z0 (decide (1 ≤ s)) (Z0 (!decide (s ≤ 10)) q2 (Z0 (s == 10) q2 (Z0 (o == true) (Z0 q3 (Z0 q4 (AV.int i64 (List.getD [(0 : Int), 1, 2, 3, 4, 0, 3, 4, 1, 2] (Int.toNat s) 0) = q1) False) False) (Z0 q3 (Z0 q4 (AV.int i64 (List.getD [(0 : Int), 3, 4, 1, 2, 0, 1, 2, 3, 4] (Int.toNat s) 0) = q1) False) False)))) q2) (by kernel_rfl) ?_
 conv => zeta
 subst hr
 cases o <;> rcases Zb6 hs with h | h | h | h | h | h | h | h | h <;> subst h <;> exact rfl
theorem Zb7 (o : Bool) (s r : Int) (hs : 1 ≤ s ∧ s ≤ 9) (hr : r = Z0h o s) :
  evF G0 20 92 [.bool o, .int .i64 s] ⟨0, []⟩ (Yn (fun v => v = .int .i64 r)) := by
 refine @Eq.mpr _ (let q1 := AV.int i64 r;
 let q2 := AV.int i64 0 = q1;
 let q3 := decide (0 ≤ s ∧ s < 10);
 let q4 := 0 + Int.toNat s;
 Z0 (decide (s < 1)) q2 (Z0 (decide (s > 10)) q2 (Z0 (s == 5) q2 (Z0 (s == 10) q2 (Z0 o (Z0 q3 (Z0 (decide (q4 < 10)) (AV.int i64 (List.getD [(0 : Int), 1, 2, 3, 4, 0, 3, 4, 1, 2] q4 0) = q1) False) False) (Z0 q3 (Z0 (decide (q4 < 10)) (AV.int i64 (List.getD [(0 : Int), 3, 4, 1, 2, 0, 1, 2, 3, 4] q4 0) = q1) False) False)))))) (by kernel_rfl) ?_
 conv => zeta
 subst hr
 cases o <;> rcases Zb6 hs with h | h | h | h | h | h | h | h | h <;> subst h <;> exact rfl
def waS : ZQ := fun args _ K => match args with
 | [.bool o, .int .i64 s] => Zj (1 ≤ s ∧ s ≤ 9) (K (.int .i64 (Z0h o s)))
 | _ => False
theorem Zag (args : List AV) (h : Z5) (K : AV → Prop) (hl : waS args h K) : Zc PP 66 args h fun o h' => ∃ v, o = .ret v ∧ h' = h ∧ K v := by
 unfold waS at hl
 split at hl
 ·obtain ⟨h1, hK⟩ := Z7 hl
  exact Ys Zv rfl (Zc2 _ _ _ h1 rfl) (fun u hu => hu ▸ hK)
 ·exact hl.elim
theorem Z8E (args : List AV) (h : Z5) (K : AV → Prop) (hl : waS args h K) : Zc PP 92 args h fun o h' => ∃ v, o = .ret v ∧ h' = h ∧ K v := by
 unfold waS at hl
 split at hl
 ·obtain ⟨h1, hK⟩ := Z7 hl
  exact Ys Zv rfl (Zb7 _ _ _ h1 rfl) (fun u hu => hu ▸ hK)
 ·exact hl.elim
end Go.Tk
end
section
namespace Go.Tk
open IntKind (i64 u8 u32 u64 wrap)
theorem Za.Inv.stage {H : List Int → List Int} {X : Za} (h : X.Inv H) : ∀ z ∈ X.L, 1 ≤ z.stage ∧ z.stage ≤ 9 := fun z hz => (Z0n (h.und z hz)).2.2.1
end Go.Tk
end
section
namespace Go.Tk
open IntKind (i64 u8 u32 u64 wrap)
end Go.Tk
end
section
namespace Go.Tk
open IntKind (i64 u8 u32 u64 wrap)
def Y4 (side s : Int) (L : List Z9) : Int := (X4 (ZN side s L)).sum
def Z0o (side s : Int) (L : List Z9) : Nat := (ZN side s L).length
def Z3Y (side s : Int) (h : Z9) : Int := if Wm side h.own = s then h.amount else 0
def Z7r (side s : Int) (h : Z9) : Nat := if Wm side h.own = s then 1 else 0
theorem X7 (side s : Int) (x : Z9) (r : List Z9) : Y4 side s (x :: r) = Z3Y side s x + Y4 side s r := by
 unfold Y4 Z3Y ZN X4
 rw [List.filter_cons]
 by_cases h : Wm side x.own = s <;> simp [h]
theorem Z2R (side s : Int) (x : Z9) (r : List Z9) : Z0o side s (x :: r) = Z7r side s x + Z0o side s r := by
 unfold Z0o Z7r ZN
 rw [List.filter_cons]
 by_cases h : Wm side x.own = s <;> simp [h] <;> omega
theorem WU (X : Za) (s : Int) : Yt X s = X.am s - Y4 X.side s X.L - X.res - (if s = 0 then X.t.fee else 0) := rfl
theorem Z8F {h : Z9} (hp : Vr h = true) : (0 ≤ h.id ∧ h.id ≤ 2147483647) ∧ (1 ≤ h.amount ∧ h.amount ≤ 1125899906842624) ∧ 1 ≤ h.expiry ∧ h.expiry ≤ 2147483647 := by
 unfold Vr at hp
 simp only [Bool.and_eq_true, decide_eq_true_eq] at hp
 exact ⟨hp.1.1, hp.1.2, hp.2⟩
end Go.Tk
end
section
namespace Go.Tk
open IntKind (i64 u8 u32 u64 wrap)
def Z4I (G : List Z9) : List Z9 := G.filter fun h => decide (h.fin = 1)
theorem Z8G {side s : Int} : ∀ {G : List Z9}, (∀ h ∈ G, 0 ≤ h.amount) → 0 ≤ Y4 side s (Z4I G) ∧ Y4 side s (Z4I G) ≤ Y4 side s G
 | [], _ => by simp [Z4I, Y4, ZN, X4]
 | x :: r, h => by
  obtain ⟨i1, i2⟩ := Z8G (side := side) (s := s) (G := r) fun z hz => h z (by simp [hz])
  have hx := h x (by simp)
  have ha : 0 ≤ Z3Y side s x := by unfold Z3Y; split <;> omega
  rw [X7]
  unfold Z4I at *
  rw [List.filter_cons]
  split
  ·rw [X7]; omega
  ·omega
theorem Wo {side s : Int} : ∀ {G : List Z9}, (∀ h ∈ G, 0 ≤ h.amount) → 0 ≤ Y4 side s G
 | [], _ => by simp [Y4, ZN, X4]
 | x :: r, h => by
  have i1 := Wo (side := side) (s := s) (G := r) fun z hz => h z (by simp [hz])
  have hx := h x (by simp)
  have ha : 0 ≤ Z3Y side s x := by unfold Z3Y; split <;> omega
  rw [X7]; omega
theorem Z0p {side s : Int} {L : List Z9} (h : ZN side s L = []) : Y4 side s L = 0 := by unfold Y4; rw [h]; rfl
end Go.Tk
end
section
namespace Go.Tk
open IntKind (i64 u8 u32 u64 wrap)
theorem Z2S {L : List Z9} {i : Nat} (hi : i < L.length) : L.take (i + 1) = L.take i ++ [L.getD i Zd] := by
 rw [List.take_succ_eq_append_getElem hi, List.getD_eq_getElem?_getD, List.getElem?_eq_getElem hi]; rfl
def Zc3 (X : Za) (m : Int) (n : Nat) : Prop := X.L.length = n ∧ n ≤ 16 ∧ (1 ≤ m ∧ m ≤ 4) ∧ (X.side = 0 ∨ X.side = 1) ∧ (∀ h ∈ X.L, (1 ≤ h.stage ∧ h.stage ≤ 9) ∧ 0 ≤ h.amount ∧ h.amount ≤ 1125899906842624) ∧ (0 ≤ X.a0 ∧ X.a0 ≤ 1125899906842624) ∧ 0 ≤ X.a1 ∧ X.a1 ≤ 1125899906842624
theorem YZ {t : ZY} (h : YS t = true) : t.cap ≠ 0 := by have := ZX h; omega
theorem Za.Inv.st {H : List Int → List Int} {X : Za} (h : X.Inv H) {m : Int} (hm : 1 ≤ m ∧ m ≤ 4) : Zc3 X m X.L.length :=
 ⟨rfl, h.len, hm, h.side, fun z hz => ⟨(Z0n (h.und z hz)).2.2.1, h.am.am z hz⟩, by have := h.a0; have := ZX h.tb; omega, by have := h.a0; have := h.a1; have := ZX h.tb; omega⟩
end Go.Tk
end
section
namespace Go.Tk
open IntKind (i64 u8 u32 u64 wrap)
end Go.Tk
end
section
namespace Go.Tk
open IntKind (i64 u8 u32 u64 wrap)
structure Zb8 where
 frm : Int
 id : Int
 amount : Int
 hash : List Int
 expiry : Int
def Zb8.c (p : Zb8) : List AV := [.int .i64 p.frm, .int .i64 p.id, .int .i64 p.amount, .arr .u8 32 p.hash, .int .i64 p.expiry]
end Go.Tk
end
section
namespace Go.Tk
open IntKind (i64 u8 u32 u64 wrap)
def Z5A (p : Z9 → Bool) : List Z9 → Nat
 | [] => 0
 | x :: r => if p x = true then 0 else Z5A p r + 1
theorem Z20 {p : Z9 → Bool} : ∀ {L : List Z9}, (∀ j, j < L.length → p (L.getD j Zd) = false) → Z5A p L = L.length
 | [], _ => rfl
 | x :: r, h => by
  unfold Z5A
  have h0 : p x = false := h 0 (by simp)
  rw [h0, if_neg (by simp), Z20 fun j hj => by have := h (j + 1) (by simpa using hj); rwa [List.getD_cons_succ] at this]
  rfl
theorem Z0q (p : Z9 → Bool) : ∀ L : List Z9, decide (Z5A p L < L.length) = L.any p
 | [] => rfl
 | x :: r => by
  unfold Z5A
  rw [List.any_cons]
  cases h : p x
  ·rw [if_neg (by simp), Bool.false_or, ← Z0q p r, List.length_cons]
   by_cases q : Z5A p r < r.length
   ·rw [decide_eq_true q, decide_eq_true (by omega)]
   ·rw [decide_eq_false q, decide_eq_false (by omega)]
  ·simp
def wtP (h : Z9) : Bool := decide (Z0h h.own h.stage = 1)
noncomputable def Zah : Zf := G0.withP 66 waS
theorem Z8H : Zah.Ok := Zf.withP_ok Zv Zag
def wtC : AV := .func (.func 65) [] []
def wtS (L : List Z9) (n i : Nat) : St := ⟨19, [(8, .int .i64 i), (7, .int .i64 n), (1, wtC), (0, .vrows 70 n (Ze L) n)], ⟨0, []⟩, []⟩
theorem Zc4 (L : List Z9) (n i : Nat) (Z1 Z2 Z3 : Prop) (hn : n < 1000) (hL : L.length = n) (hi : i ≤ n) (hst : i < n → 1 ≤ (L.getD i Zd).stage ∧ (L.getD i Zd).stage ≤ 9) (h1 : i < n → wtP (L.getD i Zd) = false → Z1) (h2 : i = n → Z2) (h3 : i < n → wtP (L.getD i Zd) = true → Z3) :
  Ym Zah 20 114 0 0 (wtS L n i) (rdM 0 0 9 (wtS L n (i + 1)) fiE (fiR i) (fiR i) Z1 Z2 Z3 False) := by
 refine @Eq.mpr _ (let q1 := List.getD L (Int.toNat (↑i : Int)) Zd;
 let q2 := q1.stage;
 let q3 := decide (n = n);
 Z0 (decide ((↑i : Int) < (↑n : Int))) (Z0 (decide (0 ≤ (↑i : Int) ∧ (↑i : Int) < (↑n : Int))) (Z0 (decide (1 ≤ q2 ∧ q2 ≤ 9)) (Z0 (Z0h q1.own q2 == 1) (Z0 (decide ((↑i : Int) = (↑i : Int))) Z3 False) (Z0 (decide (wrap i64 ((↑i : Int) + 1) = (↑(i + 1) : Int))) (Z0 (decide ((↑n : Int) = (↑n : Int))) (Z0 q3 (Ze L = Ze L ∧ Z0 q3 Z1 False) False) False) False)) False) False) Z2) (by kernel_rfl) ?_
 conv => zeta
 try simp only [Zk]
 try simp only [Zn]
 try simp only [Zl]
 try simp only [Zo]
 try simp only [Zp]
 try simp only [Zi]
 try simp only [Int.toNat_natCast, Nat.zero_add, true_and, and_true, Nat.le_refl]
 refine ⟨fun hc => ?_, fun hc => h2 (by omega)⟩
 have hlt : i < n := by omega
 have hwr : i64.wrap ((i : Int) + 1) = ((i + 1 : Nat) : Int) := by rw [w64 (by omega)]; omega
 refine ⟨by omega, hst hlt, fun hm => h3 hlt ?_, fun hm => ?_⟩
 ·unfold wtP; simpa using hm
 have := h1 hlt (by unfold wtP; simpa using hm)
 repeat' apply And.intro
 all_goals first | omega | exact hwr | exact this | rfl
noncomputable def Z9p (L : List Z9) (n : Nat) (C : Prop) : Zf := Zah.withL 114 0 (goM 0 (wtS L n 0) C (W6 0 n 9 (fun i => wtP (L.getD i Zd) = false ∧ i < n) (fun i => i = n) (fun i => i < n ∧ wtP (L.getD i Zd) = true) (fun _ => False) (fun _ => fiE) (fun i => fiR i) (fun i => fiR i)))
def Zb9 (L : List Z9) (n : Nat) : Prop := n < 1000 ∧ L.length = n ∧ ∀ h ∈ L, 1 ≤ h.stage ∧ h.stage ≤ 9
theorem Z7s (L : List Z9) (n : Nat) : (Z9p L n (Zb9 L n)).Ok :=
 Zf.withGoM (N := 20) (S := fun i => wtS L n i) Z8H (by kernel_rfl) fun hC => ⟨rfl, fun i hi _ => Zc4 L n i _ _ _ hC.1 hC.2.1 hi (fun h => hC.2.2 _ (ZU (by have := hC.2.1; omega))) (fun h h' => ⟨⟨h', h⟩, h⟩) (fun h => h) (fun h h' => ⟨h, h'⟩)⟩
theorem Zc5 (X : Za) (n : Nat) (b : Bool) (C : Prop) (hC : C) (hn : X.L.length = n) (hcap : X.t.cap ≠ 0) (hb : b = Xc X.L) :
  evF (Z9p X.L n C) 20 22 [XN X] ⟨0, []⟩ (Yn fun v => v = .bool b) := by
 refine @Eq.mpr _ (let q1 := X.L;
 let q2 := List.length q1;
 let q3 := decide (q2 = n);
 let q4 := Ze q1;
 let q5 := AV.bool false = AV.bool b;
 Z0 (!X.t.cap == 0) (Z0 (decide ((↑q2 : Int) = (↑n : Int))) (Z0 q3 (q4 = q4 ∧ Z0 q3 (C ∧ ∀ (i : Nat), i ≤ n → (∀ (j : Nat), j < i → (fun (i : Nat) => wtP (List.getD q1 i Zd) = false ∧ i < n) j) → (i = n → q5) ∧ (i < n ∧ wtP (List.getD q1 i Zd) = true → AV.bool true = AV.bool b) ∧ (False → False)) False) False) False) q5) (by kernel_rfl) ?_
 conv => zeta
 try simp only [Zk]
 try simp only [Zn]
 try simp only [Zl]
 try simp only [Zo]
 try simp only [Zp]
 try simp only [Zi]
 try simp only [Int.toNat_natCast, Nat.zero_add, true_and, and_true, Nat.le_refl]
 subst hb
 refine ⟨fun _ => ⟨by rw [hn], hn, hn, hC, fun i hi hg => ⟨fun he => ?_, fun hx => ?_, fun h => h.elim⟩⟩, fun h => absurd h (by simpa using hcap)⟩
 ·have : Xc X.L = false := by
   rw [show Xc X.L = X.L.any wtP from rfl, ← Z0q, Z20 (p := wtP) fun j hj => (hg j (by omega)).1]
   exact decide_eq_false (by omega)
  rw [this]
 ·have : Xc X.L = true := List.any_eq_true.2 ⟨_, ZU (by omega), hx.2⟩
  rw [this]
def Z7t : ZQ := fun args h K => ZI none h true 20 args fun a => match a with
 | [.pview cs 0] => ∃ X, LV cs X ∧ X.Inv Y0 ∧ K (.bool (Xc X.L))
 | _ => False
theorem Z5B (args : List AV) (h : Z5) (K : AV → Prop) (hl : Z7t args h K) : Zc PP 22 args h fun o h' => ∃ v, o = .ret v ∧ h' = h ∧ K v := by
 refine Zx.psumm (d := 20) (Zq _ _ _ _ _ hl fun a ha => ?_)
 split at ha
 ·obtain ⟨X, hX, hI, hK⟩ := ha
  exact ⟨_, (Zx.evV (Z7s X.L X.L.length) (Zc5 X _ _ _ ⟨hI.am.n, rfl, hI.stage⟩ rfl (YZ hI.tb) rfl)).conv fun E r hr => hr.head (fun _ hc => Xu hX hc) fun _ hc => hc, fun _ => rfl, hK⟩
 ·exact ha.elim
end Go.Tk
end
section
namespace Go.Tk
open IntKind (i64 u8 u32 u64 wrap)
def ZZ (W : Int → List Int) : List Int → List Int → List Int
 | xs, [] => xs
 | xs, n :: r => ZZ W (xs ++ W n) r
theorem X8 : ∀ (ns xs : List Int), (ZZ ZE xs ns).length ≤ xs.length + 9 * ns.length
 | [], xs => by simp [ZZ]
 | n :: r, xs => by
  have h1 := ZA n
  have h2 := X8 r (xs ++ ZE n)
  simp only [ZZ, List.length_append, List.length_cons] at *; omega
def wrH (N : Nat) (xs : List Int) : Z5 := ⟨2, [(0, .flat [.nslice ⟨1, 0, 0, 0, 0⟩ 1 N N, .bool true]), (1, .ints .u8 xs)]⟩
theorem Zc6 (W : Int → List Int) (T : Int) (xs ys : List Int) (N L : Nat) (a b : Int) (hT : T = 4611686018427387904) (hW : W = ZE) (hN : xs.length = N) (hB : N < 80000000000000) (h1 : 0 ≤ a ∧ a ≤ T) (h2 : 0 ≤ b ∧ b ≤ T) (hy : ys = ZZ W xs [a, b]) (hL : L = ys.length) :
  evF (Z6U W) 20 70 [.ptr (some ⟨0, 0, 0, 0, 0⟩), .vints .i64 [a, b] 2] (wrH N xs) (YK 2 (.ret (.int .i64 0)) 3 [(0, .flat [.nslice ⟨2, 0, 0, 0, 0⟩ 1 L L, .bool true]), (2, .ints .u8 ys)]) := by
 refine @Eq.mpr _ (let q1 := xs ++ W a;
 let q2 := List.length q1;
 let q3 := q1 ++ W b;
 let q4 := List.length q3;
 Z0 (decide (a < 0)) False (Z0 (decide (a > 4611686018427387904)) False (Z0 (decide (b < 0)) False (Z0 (decide (b > 4611686018427387904)) False (Z0 (decide (List.length xs = N ∧ N < 90000000000000)) (Z0 (decide (q2 = q2 ∧ q2 < 90000000000000)) (Z0 (decide (q4 = L)) (Z0 (decide (L ≤ q4)) (q3 = ys ∧ True) False) False) False) False))))) (by kernel_rfl) ?_
 conv => zeta
 try simp only [Zk]
 try simp only [Zn]
 try simp only [Zl]
 try simp only [Zo]
 try simp only [Zp]
 try simp only [Zi]
 try simp only [Int.toNat_natCast, Nat.zero_add, true_and, and_true, Nat.le_refl]
 subst hT hW hN hy hL
 have wa := ZA a
 have wb := ZA b
 simp only [ZZ]
 repeat' apply And.intro
 all_goals first | omega | rfl | (simp only [List.length_append] <;> omega)
theorem Zc7 (W : Int → List Int) (T : Int) (xs ys : List Int) (N L : Nat) (a b c : Int) (hT : T = 4611686018427387904) (hW : W = ZE) (hN : xs.length = N) (hB : N < 80000000000000) (h1 : 0 ≤ a ∧ a ≤ T) (h2 : 0 ≤ b ∧ b ≤ T) (h3 : 0 ≤ c ∧ c ≤ T) (hy : ys = ZZ W xs [a, b, c]) (hL : L = ys.length) :
  evF (Z6U W) 20 70 [.ptr (some ⟨0, 0, 0, 0, 0⟩), .vints .i64 [a, b, c] 3] (wrH N xs) (YK 2 (.ret (.int .i64 0)) 3 [(0, .flat [.nslice ⟨2, 0, 0, 0, 0⟩ 1 L L, .bool true]), (2, .ints .u8 ys)]) := by
 refine @Eq.mpr _ (let q1 := xs ++ W a;
 let q2 := List.length q1;
 let q3 := q1 ++ W b;
 let q4 := List.length q3;
 let q5 := q3 ++ W c;
 let q6 := List.length q5;
 Z0 (decide (a < 0)) False (Z0 (decide (a > 4611686018427387904)) False (Z0 (decide (b < 0)) False (Z0 (decide (b > 4611686018427387904)) False (Z0 (decide (c < 0)) False (Z0 (decide (c > 4611686018427387904)) False (Z0 (decide (List.length xs = N ∧ N < 90000000000000)) (Z0 (decide (q2 = q2 ∧ q2 < 90000000000000)) (Z0 (decide (q4 = q4 ∧ q4 < 90000000000000)) (Z0 (decide (q6 = L)) (Z0 (decide (L ≤ q6)) (q5 = ys ∧ True) False) False) False) False) False))))))) (by kernel_rfl) ?_
 conv => zeta
 try simp only [Zk]
 try simp only [Zn]
 try simp only [Zl]
 try simp only [Zo]
 try simp only [Zp]
 try simp only [Zi]
 try simp only [Int.toNat_natCast, Nat.zero_add, true_and, and_true, Nat.le_refl]
 subst hT hW hN hy hL
 have wa := ZA a
 have wb := ZA b
 have wc := ZA c
 simp only [ZZ]
 repeat' apply And.intro
 all_goals first | omega | rfl | (simp only [List.length_append] <;> omega)
theorem Zc8 (W : Int → List Int) (T : Int) (xs ys : List Int) (N L : Nat) (a b c d e : Int) (hT : T = 4611686018427387904) (hW : W = ZE) (hN : xs.length = N) (hB : N < 80000000000000) (h1 : 0 ≤ a ∧ a ≤ T) (h2 : 0 ≤ b ∧ b ≤ T) (h3 : 0 ≤ c ∧ c ≤ T) (h4 : 0 ≤ d ∧ d ≤ T) (h5 : 0 ≤ e ∧ e ≤ T) (hy : ys = ZZ W xs [a, b, c, d, e]) (hL : L = ys.length) :
  evF (Z6U W) 20 70 [.ptr (some ⟨0, 0, 0, 0, 0⟩), .vints .i64 [a, b, c, d, e] 5] (wrH N xs) (YK 2 (.ret (.int .i64 0)) 3 [(0, .flat [.nslice ⟨2, 0, 0, 0, 0⟩ 1 L L, .bool true]), (2, .ints .u8 ys)]) := by
 refine @Eq.mpr _ (let q1 := xs ++ W a;
 let q2 := List.length q1;
 let q3 := q1 ++ W b;
 let q4 := List.length q3;
 let q5 := q3 ++ W c;
 let q6 := List.length q5;
 let q7 := q5 ++ W d;
 let q8 := List.length q7;
 let q9 := q7 ++ W e;
 let q10 := List.length q9;
 Z0 (decide (a < 0)) False (Z0 (decide (a > 4611686018427387904)) False (Z0 (decide (b < 0)) False (Z0 (decide (b > 4611686018427387904)) False (Z0 (decide (c < 0)) False (Z0 (decide (c > 4611686018427387904)) False (Z0 (decide (d < 0)) False (Z0 (decide (d > 4611686018427387904)) False (Z0 (decide (e < 0)) False (Z0 (decide (e > 4611686018427387904)) False (Z0 (decide (List.length xs = N ∧ N < 90000000000000)) (Z0 (decide (q2 = q2 ∧ q2 < 90000000000000)) (Z0 (decide (q4 = q4 ∧ q4 < 90000000000000)) (Z0 (decide (q6 = q6 ∧ q6 < 90000000000000)) (Z0 (decide (q8 = q8 ∧ q8 < 90000000000000)) (Z0 (decide (q10 = L)) (Z0 (decide (L ≤ q10)) (q9 = ys ∧ True) False) False) False) False) False) False) False))))))))))) (by kernel_rfl) ?_
 conv => zeta
 try simp only [Zk]
 try simp only [Zn]
 try simp only [Zl]
 try simp only [Zo]
 try simp only [Zp]
 try simp only [Zi]
 try simp only [Int.toNat_natCast, Nat.zero_add, true_and, and_true, Nat.le_refl]
 subst hT hW hN hy hL
 have wa := ZA a
 have wb := ZA b
 have wc := ZA c
 have wd := ZA d
 have we := ZA e
 simp only [ZZ]
 repeat' apply And.intro
 all_goals first | omega | rfl | (simp only [List.length_append] <;> omega)
theorem Zc9 (W : Int → List Int) (T : Int) (xs ys : List Int) (N L : Nat) (a b c d e f g : Int) (hT : T = 4611686018427387904) (hW : W = ZE) (hN : xs.length = N) (hB : N < 80000000000000) (h1 : 0 ≤ a ∧ a ≤ T) (h2 : 0 ≤ b ∧ b ≤ T) (h3 : 0 ≤ c ∧ c ≤ T) (h4 : 0 ≤ d ∧ d ≤ T) (h5 : 0 ≤ e ∧ e ≤ T) (h6 : 0 ≤ f ∧ f ≤ T) (h7 : 0 ≤ g ∧ g ≤ T) (hy : ys = ZZ W xs [a, b, c, d, e, f, g]) (hL : L = ys.length) :
  evF (Z6U W) 20 70 [.ptr (some ⟨0, 0, 0, 0, 0⟩), .vints .i64 [a, b, c, d, e, f, g] 7] (wrH N xs) (YK 2 (.ret (.int .i64 0)) 3 [(0, .flat [.nslice ⟨2, 0, 0, 0, 0⟩ 1 L L, .bool true]), (2, .ints .u8 ys)]) := by
 refine @Eq.mpr _ (let q1 := xs ++ W a;
 let q2 := List.length q1;
 let q3 := q1 ++ W b;
 let q4 := List.length q3;
 let q5 := q3 ++ W c;
 let q6 := List.length q5;
 let q7 := q5 ++ W d;
 let q8 := List.length q7;
 let q9 := q7 ++ W e;
 let q10 := List.length q9;
 let q11 := q9 ++ W f;
 let q12 := List.length q11;
 let q13 := q11 ++ W g;
 let q14 := List.length q13;
 Z0 (decide (a < 0)) False
 (Z0 (decide (a > 4611686018427387904)) False (Z0 (decide (b < 0)) False (Z0 (decide (b > 4611686018427387904)) False (Z0 (decide (c < 0)) False (Z0 (decide (c > 4611686018427387904)) False (Z0 (decide (d < 0)) False (Z0 (decide (d > 4611686018427387904)) False (Z0 (decide (e < 0)) False (Z0 (decide (e > 4611686018427387904)) False (Z0 (decide (f < 0)) False (Z0 (decide (f > 4611686018427387904)) False (Z0 (decide (g < 0)) False (Z0 (decide (g > 4611686018427387904)) False (Z0 (decide (List.length xs = N ∧ N < 90000000000000)) (Z0 (decide (q2 = q2 ∧ q2 < 90000000000000)) (Z0 (decide (q4 = q4 ∧ q4 < 90000000000000)) (Z0 (decide (q6 = q6 ∧ q6 < 90000000000000)) (Z0 (decide (q8 = q8 ∧ q8 < 90000000000000)) (Z0 (decide (q10 = q10 ∧ q10 < 90000000000000)) (Z0 (decide (q12 = q12 ∧ q12 < 90000000000000)) (Z0 (decide (q14 = L)) (Z0 (decide (L ≤ q14)) (q13 = ys ∧ True) False) False) False) False) False) False) False) False) False))))))))))))))) (by kernel_rfl) ?_
 conv => zeta
 try simp only [Zk]
 try simp only [Zn]
 try simp only [Zl]
 try simp only [Zo]
 try simp only [Zp]
 try simp only [Zi]
 try simp only [Int.toNat_natCast, Nat.zero_add, true_and, and_true, Nat.le_refl]
 subst hT hW hN hy hL
 have wa := ZA a
 have wb := ZA b
 have wc := ZA c
 have wd := ZA d
 have we := ZA e
 have wf := ZA f
 have wg := ZA g
 simp only [ZZ]
 repeat' apply And.intro
 all_goals first | omega | rfl | (simp only [List.length_append] <;> omega)
theorem Zca (hh : List Int) (hq : hh.length = 32) :
  evF G0 20 69 [.ptr (some ⟨0, 0, 0, 0, 0⟩), .vrows 32 1 (fun _ => [.arr .u8 32 hh]) 1] ⟨1, [(0, .flat [.nilslice, .bool true])]⟩ (YK 1 (.ret (.int .i64 0)) 2 [(0, .flat [.nslice ⟨1, 0, 0, 0, 0⟩ 1 32 32, .bool true]), (1, .ints .u8 hh)]) := by
 refine @Eq.mpr _ (let q1 := [] ++ hh;
 let q2 := List.length q1;
 Z0 (decide (u8 = u8 ∧ List.length hh = 32)) (Z0 (decide (q2 * 1 ≤ 140737488355328)) (Z0 (decide (q2 = 32)) (Z0 (decide (32 ≤ q2)) (q1 = hh ∧ True) False) False) False) False) (by kernel_rfl) ?_
 conv => zeta
 try simp only [Zk]
 try simp only [Zn]
 try simp only [Zl]
 try simp only [Zo]
 try simp only [Zp]
 try simp only [Zi]
 try simp only [Int.toNat_natCast, Nat.zero_add, true_and, and_true, Nat.le_refl]
 simp only [List.nil_append]
 repeat' apply And.intro
 all_goals first | trivial | omega | rfl | assumption
theorem Zcb (xs hh gg ys : List Int) (N L : Nat) (hN : xs.length = N) (hB : N < 80000000000000) (hq : hh.length = 32) (hg : gg.length = 32) (hy : ys = xs ++ hh ++ gg) (hL : L = ys.length) :
  evF G0 20 69 [.ptr (some ⟨0, 0, 0, 0, 0⟩), .vrows 32 2 (fun i => [.arr .u8 32 ([hh, gg].getD i [])]) 2] (wrH N xs) (YK 2 (.ret (.int .i64 0)) 3 [(0, .flat [.nslice ⟨2, 0, 0, 0, 0⟩ 1 L L, .bool true]), (2, .ints .u8 ys)]) := by
 refine @Eq.mpr _ (let q1 := xs ++ hh;
 let q2 := List.length q1;
 let q3 := q1 ++ gg;
 let q4 := List.length q3;
 Z0 (decide (u8 = u8 ∧ List.length hh = 32)) (Z0 (decide (u8 = u8 ∧ List.length xs = N)) (Z0 (decide (q2 * 1 ≤ 140737488355328)) (Z0 (decide (u8 = u8 ∧ List.length gg = 32)) (Z0 (decide (u8 = u8 ∧ q2 = q2)) (Z0 (decide (q4 * 1 ≤ 140737488355328)) (Z0 (decide (q4 = L)) (Z0 (decide (L ≤ q4)) (q3 = ys ∧ True) False) False) False) False) False) False) False) False) (by kernel_rfl) ?_
 conv => zeta
 try simp only [Zk]
 try simp only [Zn]
 try simp only [Zl]
 try simp only [Zo]
 try simp only [Zp]
 try simp only [Zi]
 try simp only [Int.toNat_natCast, Nat.zero_add, true_and, and_true, Nat.le_refl]
 subst hN hy hL
 repeat' apply And.intro
 all_goals first | omega | rfl | assumption | (simp only [List.length_append] <;> omega)
theorem Zcc (xs ys : List Int) (N L : Nat) (b : Bool) (hN : xs.length = N) (hB : N < 80000000000000) (hy : ys = xs ++ [cond b 1 0]) (hL : L = ys.length) :
  evF G0 20 71 [.ptr (some ⟨0, 0, 0, 0, 0⟩), .vrows 1 1 (fun _ => [.bool b]) 1] (wrH N xs) (YK 2 (.ret (.int .i64 0)) 3 [(0, .flat [.nslice ⟨2, 0, 0, 0, 0⟩ 1 L L, .bool true]), (2, .ints .u8 ys)]) := by
 refine @Eq.mpr _ (let q1 := decide (u8 = u8 ∧ List.length xs = N);
 let q2 := xs ++ [(1 : Int)];
 let q3 := List.length q2;
 let q4 := xs ++ [(0 : Int)];
 let q5 := List.length q4;
 Z0 b (Z0 q1 (Z0 (decide (q3 * 1 ≤ 140737488355328)) (Z0 (decide (q3 = L)) (Z0 (decide (L ≤ q3)) (q2 = ys ∧ True) False) False) False) False) (Z0 q1 (Z0 (decide (q5 * 1 ≤ 140737488355328)) (Z0 (decide (q5 = L)) (Z0 (decide (L ≤ q5)) (q4 = ys ∧ True) False) False) False) False)) (by kernel_rfl) ?_
 conv => zeta
 try simp only [Zk]
 try simp only [Zn]
 try simp only [Zl]
 try simp only [Zo]
 try simp only [Zp]
 try simp only [Zi]
 try simp only [Int.toNat_natCast, Nat.zero_add, true_and, and_true, Nat.le_refl]
 subst hN hy hL
 refine ⟨fun h => ?_, fun h => ?_⟩
 all_goals subst h
 all_goals repeat' apply And.intro
 all_goals first | omega | rfl | (simp only [List.length_append, List.length_cons, List.length_nil] <;> omega)
def Z0r (h : Z5) (w b : Nat) (ys : List Int) : Z5 := ⟨h.next + 1, (w, .flat [.nslice ⟨h.next, 0, 0, 0, 0⟩ 1 ys.length ys.length, .bool true]) :: (h.next, .ints .u8 ys) :: Wv (Wv h.bs w) b⟩
def wnG (W : Int → List Int) (T : Int) (B : Nat) : Yz := fun args h K => match args with
 | [.ptr (some ⟨w, 0, 0, 0, 0⟩), _] => match h.get w with
  |some (.flat [.nslice ⟨b, 0, 0, 0, 0⟩ 1 _ _, .bool true]) => frA [w, b] h 20 args fun Bs a => match Bs, a with
   | [.flat [.nslice ⟨1, 0, 0, 0, 0⟩ 1 N M, .bool true], .ints .u8 xs], [.ptr (some ⟨0, 0, 0, 0, 0⟩), .vints .i64 [x, y] 2] =>
    Zj (xs.length = N ∧ M = N ∧ N < B ∧ (0 ≤ x ∧ x ≤ T) ∧ (0 ≤ y ∧ y ≤ T)) (K (.ret (.int .i64 0)) (Z0r h w b (ZZ W xs [x, y])))
   | [.flat [.nslice ⟨1, 0, 0, 0, 0⟩ 1 N M, .bool true], .ints .u8 xs], [.ptr (some ⟨0, 0, 0, 0, 0⟩), .vints .i64 [x, y, z] 3] =>
    Zj (xs.length = N ∧ M = N ∧ N < B ∧ (0 ≤ x ∧ x ≤ T) ∧ (0 ≤ y ∧ y ≤ T) ∧ (0 ≤ z ∧ z ≤ T)) (K (.ret (.int .i64 0)) (Z0r h w b (ZZ W xs [x, y, z])))
   | [.flat [.nslice ⟨1, 0, 0, 0, 0⟩ 1 N M, .bool true], .ints .u8 xs], [.ptr (some ⟨0, 0, 0, 0, 0⟩), .vints .i64 [x, y, z, u, v] 5] =>
    Zj (xs.length = N ∧ M = N ∧ N < B ∧ (0 ≤ x ∧ x ≤ T) ∧ (0 ≤ y ∧ y ≤ T) ∧ (0 ≤ z ∧ z ≤ T) ∧ (0 ≤ u ∧ u ≤ T) ∧ (0 ≤ v ∧ v ≤ T)) (K (.ret (.int .i64 0)) (Z0r h w b (ZZ W xs [x, y, z, u, v])))
   | [.flat [.nslice ⟨1, 0, 0, 0, 0⟩ 1 N M, .bool true], .ints .u8 xs], [.ptr (some ⟨0, 0, 0, 0, 0⟩), .vints .i64 [x, y, z, u, v, p, q] 7] =>
    Zj (xs.length = N ∧ M = N ∧ N < B ∧ (0 ≤ x ∧ x ≤ T) ∧ (0 ≤ y ∧ y ≤ T) ∧ (0 ≤ z ∧ z ≤ T) ∧ (0 ≤ u ∧ u ≤ T) ∧ (0 ≤ v ∧ v ≤ T) ∧ (0 ≤ p ∧ p ≤ T) ∧ (0 ≤ q ∧ q ≤ T)) (K (.ret (.int .i64 0)) (Z0r h w b (ZZ W xs [x, y, z, u, v, p, q])))
   | _, _ => False
  | _ => False
 | _ => False
theorem Zai (args : List AV) (h : Z5) (K : KO) (hl : wnG ZE 4611686018427387904 80000000000000 args h K) : Zc PP 70 args h K := by
 unfold wnG at hl
 split at hl
 ·split at hl
  ·refine Spec.fsumm hl fun Bs a hlen hK0 => ?_
   split at hK0
   ·obtain ⟨⟨h1, rfl, h2, k0, k1⟩, hK⟩ := Z7 hK0
    exact ⟨_, _, _, _, _, .evM Q9 (Zc6 _ _ _ _ _ _ _ _ rfl rfl h1 h2 k0 k1 rfl rfl), by simp, .ret _ _ rfl, .cons _ _ _ _ _ _ rfl (.flat _ _ rfl) (.cons _ _ _ _ _ _ rfl (.ints _ _) .nil), hK⟩
   ·obtain ⟨⟨h1, rfl, h2, k0, k1, k2⟩, hK⟩ := Z7 hK0
    exact ⟨_, _, _, _, _, .evM Q9 (Zc7 _ _ _ _ _ _ _ _ _ rfl rfl h1 h2 k0 k1 k2 rfl rfl), by simp, .ret _ _ rfl, .cons _ _ _ _ _ _ rfl (.flat _ _ rfl) (.cons _ _ _ _ _ _ rfl (.ints _ _) .nil), hK⟩
   ·obtain ⟨⟨h1, rfl, h2, k0, k1, k2, k3, k4⟩, hK⟩ := Z7 hK0
    exact ⟨_, _, _, _, _, .evM Q9 (Zc8 _ _ _ _ _ _ _ _ _ _ _ rfl rfl h1 h2 k0 k1 k2 k3 k4 rfl rfl), by simp, .ret _ _ rfl, .cons _ _ _ _ _ _ rfl (.flat _ _ rfl) (.cons _ _ _ _ _ _ rfl (.ints _ _) .nil), hK⟩
   ·obtain ⟨⟨h1, rfl, h2, k0, k1, k2, k3, k4, k5, k6⟩, hK⟩ := Z7 hK0
    exact ⟨_, _, _, _, _, .evM Q9 (Zc9 _ _ _ _ _ _ _ _ _ _ _ _ _ rfl rfl h1 h2 k0 k1 k2 k3 k4 k5 k6 rfl rfl), by simp, .ret _ _ rfl, .cons _ _ _ _ _ _ rfl (.flat _ _ rfl) (.cons _ _ _ _ _ _ rfl (.ints _ _) .nil), hK⟩
   ·exact hK0.elim
  ·exact hl.elim
 ·exact hl.elim
def whG (B : Nat) : Yz := fun args h K => match args with
 | [.ptr (some ⟨w, 0, 0, 0, 0⟩), _] => match h.get w with
  |some (.flat [.nslice ⟨b, 0, 0, 0, 0⟩ 1 _ _, .bool true]) => frA [w, b] h 20 args fun Bs a => match Bs, a with
   | [.flat [.nslice ⟨1, 0, 0, 0, 0⟩ 1 N M, .bool true], .ints .u8 xs], [.ptr (some ⟨0, 0, 0, 0, 0⟩), .vrows 32 1 f 1] => match f 0 with
    | [.arr .u8 32 hh] => Zj (xs.length = N ∧ M = N ∧ N < B ∧ hh.length = 32) (K (.ret (.int .i64 0)) (Z0r h w b (xs ++ hh)))
    | _ => False
   | [.flat [.nslice ⟨1, 0, 0, 0, 0⟩ 1 N M, .bool true], .ints .u8 xs], [.ptr (some ⟨0, 0, 0, 0, 0⟩), .vrows 32 2 f 2] => match f 0, f 1 with
    | [.arr .u8 32 hh], [.arr .u8 32 gg] => Zj (xs.length = N ∧ M = N ∧ N < B ∧ hh.length = 32 ∧ gg.length = 32) (K (.ret (.int .i64 0)) (Z0r h w b (xs ++ hh ++ gg)))
    | _, _ => False
   | _, _ => False
  | some (.flat [.nilslice, .bool true]) => frA [w] h 20 args fun Bs a => match Bs, a with
   | [.flat [.nilslice, .bool true]], [.ptr (some ⟨0, 0, 0, 0, 0⟩), .vrows 32 1 f 1] => match f 0 with
    | [.arr .u8 32 hh] => Zj (hh.length = 32) (K (.ret (.int .i64 0)) ⟨h.next + 1, (w, .flat [.nslice ⟨h.next, 0, 0, 0, 0⟩ 1 32 32, .bool true]) :: (h.next, .ints .u8 hh) :: Wv h.bs w⟩)
    | _ => False
   | _, _ => False
  | _ => False
 | _ => False
theorem Zaj (args : List AV) (h : Z5) (K : KO) (hl : whG 80000000000000 args h K) : Zc PP 69 args h K := by
 unfold whG at hl
 split at hl
 ·split at hl
  ·refine Spec.fsumm hl fun Bs a hlen hK0 => ?_
   split at hK0
   ·split at hK0
    case h_2 => exact hK0.elim
    rename_i hh hf
    obtain ⟨⟨h1, rfl, h2, h3⟩, hK⟩ := Z7 hK0
    refine ⟨_, _, _, _, _, (Spec.evM Zv (Z8j _ hh _ _ _ _ h1 (by omega) h3 rfl rfl)).conv fun E r hr => hr.head (fun _ hc => hc) fun _ hc => hc.head (fun _ hc => hc.rowsC ?_) fun _ hc => hc, by simp, .ret _ _ rfl, .cons _ _ _ _ _ _ rfl (.flat _ _ rfl) (.cons _ _ _ _ _ _ rfl (.ints _ _) .nil), hK⟩
    intro i hi
    have : i = 0 := by omega
    subst this
    exact hf
   ·split at hK0
    case h_2 => exact hK0.elim
    rename_i hh gg hf hg
    obtain ⟨⟨h1, rfl, h2, h3, h4⟩, hK⟩ := Z7 hK0
    refine ⟨_, _, _, _, _, (Spec.evM Zv (Zcb _ hh gg _ _ _ h1 h2 h3 h4 rfl rfl)).conv fun E r hr => hr.head (fun _ hc => hc) fun _ hc => hc.head (fun _ hc => hc.rowsC ?_) fun _ hc => hc, by simp, .ret _ _ rfl, .cons _ _ _ _ _ _ rfl (.flat _ _ rfl) (.cons _ _ _ _ _ _ rfl (.ints _ _) .nil), hK⟩
    intro i hi
    have : i = 0 ∨ i = 1 := by omega
    rcases this with rfl | rfl
    ·exact hf
    ·exact hg
   ·exact hK0.elim
  ·refine Spec.fsumm hl fun Bs a hlen hK0 => ?_
   split at hK0
   ·split at hK0
    case h_2 => exact hK0.elim
    rename_i hh hf
    obtain ⟨h3, hK⟩ := Z7 hK0
    refine ⟨_, _, _, _, _, (Spec.evM Zv (Zca hh h3)).conv fun E r hr => hr.head (fun _ hc => hc) fun _ hc => hc.head (fun _ hc => hc.rowsC ?_) fun _ hc => hc, by simp, .ret _ _ rfl, .cons _ _ _ _ _ _ rfl (.flat _ _ rfl) (.cons _ _ _ _ _ _ rfl (.ints _ _) .nil), hK⟩
    intro i hi
    have : i = 0 := by omega
    subst this
    exact hf
   ·exact hK0.elim
  ·exact hl.elim
 ·exact hl.elim
def wtG (B : Nat) : Yz := fun args h K => match args with
 | [.ptr (some ⟨w, 0, 0, 0, 0⟩), _] => match h.get w with
  |some (.flat [.nslice ⟨b, 0, 0, 0, 0⟩ 1 _ _, .bool true]) => frA [w, b] h 20 args fun Bs a => match Bs, a with
   | [.flat [.nslice ⟨1, 0, 0, 0, 0⟩ 1 N M, .bool true], .ints .u8 xs], [.ptr (some ⟨0, 0, 0, 0, 0⟩), .vrows 1 1 f 1] => match f 0 with
    | [.bool t] => Zj (xs.length = N ∧ M = N ∧ N < B) (K (.ret (.int .i64 0)) (Z0r h w b (xs ++ [cond t 1 0])))
    | _ => False
   | _, _ => False
  | _ => False
 | _ => False
theorem Zak (args : List AV) (h : Z5) (K : KO) (hl : wtG 80000000000000 args h K) : Zc PP 71 args h K := by
 unfold wtG at hl
 split at hl
 ·split at hl
  ·refine Spec.fsumm hl fun Bs a hlen hK0 => ?_
   split at hK0
   ·split at hK0
    case h_2 => exact hK0.elim
    rename_i t hf
    obtain ⟨⟨h1, rfl, h2⟩, hK⟩ := Z7 hK0
    refine ⟨_, _, _, _, _, (Spec.evM Zv (Zcc _ _ _ _ t h1 h2 rfl rfl)).conv fun E r hr => hr.head (fun _ hc => hc) fun _ hc => hc.head (fun _ hc => hc.rowsC ?_) fun _ hc => hc, by simp, .ret _ _ rfl, .cons _ _ _ _ _ _ rfl (.flat _ _ rfl) (.cons _ _ _ _ _ _ rfl (.ints _ _) .nil), hK⟩
    intro i hi
    have : i = 0 := by omega
    subst this
    exact hf
   ·exact hK0.elim
  ·exact hl.elim
 ·exact hl.elim
end Go.Tk
end
section
namespace Go.Tk
open IntKind (i64 u8 u32 u64 wrap)
def Z0F (W : Int → List Int) (xs : List Int) (h : Z9) : List Int := if h.fin = 1 then ZZ W (ZZ W (xs ++ [cond h.own 1 0]) [h.id, h.amount] ++ h.hash) [h.expiry, h.stage, h.fin] ++ h.secret else ZZ W (ZZ W (xs ++ [cond h.own 1 0]) [h.id, h.amount] ++ h.hash) [h.expiry, h.stage, h.fin]
def Xv (W : Int → List Int) (X : Za) : List Int := ZZ W (ZZ W X.t.fund [X.t.index, X.t.cap, X.t.dust, X.t.fee, X.t.delay] ++ X.t.k0 ++ X.t.k1) [X.side, X.res, X.a0, X.a1, X.i0, X.i1, (X.L.length : Int)]
def W7 (W : Int → List Int) (X : Za) : List Int := X.L.foldl (Z0F W) (Xv W X)
noncomputable def Z8I (W : Int → List Int) (T : Int) (B : Nat) : Zf := (((G0.withF 70 (wnG W T B)).withF 69 (whG B)).withF 71 (wtG B)).withF 119 Z4x
theorem Z8J : (Z8I ZE 4611686018427387904 80000000000000).Ok := Zf.withF_ok (Zf.withF_ok (Zf.withF_ok (Zf.withF_ok Zv Zai) Zaj) Zak) Z3O
def rwS (X : Za) (n i N : Nat) (xs : List Int) : St := ⟨127, [(77, .int .i64 i), (76, .int .i64 n), (75, .vrows 70 n (Ze X.L) n), (3, .ptr (some ⟨0, 0, 0, 0, 0⟩))], wrH N xs, []⟩
def rwE (N : Nat) (xs : List Int) : St := ⟨127, [(3, .ptr (some ⟨0, 0, 0, 0, 0⟩))], wrH N xs, []⟩
def Z8K (T : Int) (x : Z9) : Prop := (0 ≤ x.id ∧ x.id ≤ T) ∧ (0 ≤ x.amount ∧ x.amount ≤ T) ∧ (0 ≤ x.expiry ∧ x.expiry ≤ T) ∧ (0 ≤ x.stage ∧ x.stage ≤ T) ∧ 0 ≤ x.fin ∧ x.fin ≤ T
theorem Zcd (X : Za) (n i N N1 B : Nat) (xs ys : List Int) (x : Z9) (W : Int → List Int) (T : Int) (Z1 Z2 : Prop) (hn : n < 1000) (hL : X.L.length = n) (hi : i ≤ n) (hx : i < n → X.L.getD i Zd = x) (hN : xs.length = N) (hB : i < n → N + 1000 < B) (hW : W = ZE) (hr : i < n → Z8K T x) (hk : i < n → x.Ok) (hy : i < n → ys = Z0F W xs x) (hN1 : i < n → N1 = ys.length) (hZ1 : i < n → Z1) (hZ2 : i = n → Z2) :
  Ym (Z8I W T B) 20 26 0 0 (rwS X n i N xs) (rdM 0 0 9 (rwS X n (i + 1) N1 ys) (rwE N xs) (rwE N xs) (rwE N xs) Z1 Z2 False False) := by
 refine @Eq.mpr _ (let q1 := List.getD X.L (Int.toNat (↑i : Int)) Zd;
 let q2 := xs ++ [bif q1.own then 1 else 0];
 let q3 := List.length q2;
 let q4 := q1.id;
 let q5 := q1.amount;
 let q6 := ZZ W q2 [q4, q5];
 let q7 := List.length q6;
 let q8 := q1.hash;
 let q9 := q6 ++ q8;
 let q10 := List.length q9;
 let q11 := q1.expiry;
 let q12 := q1.stage;
 let q13 := q1.fin;
 let q14 := ZZ W q9 [q11, q12, q13];
 let q15 := List.length q14;
 let q16 := q1.secret;
 let q17 := decide (wrap i64 ((↑i : Int) + 1) = (↑(i + 1) : Int));
 let q18 := decide ((↑n : Int) = (↑n : Int));
 let q19 := decide (n = n);
 let q20 := Ze X.L;
 let q21 := q20 = q20;
 let q22 := q14 ++ q16;
 let q23 := List.length q22;
 Z0 (decide ((↑i : Int) < (↑n : Int))) (Z0 (decide (0 ≤ (↑i : Int) ∧ (↑i : Int) < (↑n : Int))) (Z0 (decide (List.length xs = N ∧ N = N ∧ N < B)) (Z0 (decide (q3 = q3 ∧ q3 = q3 ∧ q3 < B ∧ (0 ≤ q4 ∧ q4 ≤ T) ∧ 0 ≤ q5 ∧ q5 ≤ T)) (Z0 (decide (q7 = q7 ∧ q7 = q7 ∧ q7 < B ∧ List.length q8 = 32)) (Z0 (decide (q10 = q10 ∧ q10 = q10 ∧ q10 < B ∧ (0 ≤ q11 ∧ q11 ≤ T) ∧ (0 ≤ q12 ∧ q12 ≤ T) ∧ 0 ≤ q13 ∧ q13 ≤ T)) (Z0 (q13 == 1) (Z0 (decide (q15 = q15 ∧ q15 = q15 ∧ q15 < B ∧ List.length q16 = 32)) (Z0 q17 (Z0 q18 (Z0 q19 (q21 ∧ Z0 q19 (Z0 (decide (q23 = N1)) (Z0 (decide (N1 ≤ q23)) (q22 = ys ∧ Z1) False) False) False) False) False) False) False) (Z0 q17 (Z0 q18 (Z0 q19 (q21 ∧ Z0 q19 (Z0 (decide (q15 = N1)) (Z0 (decide (N1 ≤ q15)) (q14 = ys ∧ Z1) False) False) False) False) False) False)) False) False) False) False) False) (Z0 (decide (N = N)) (Z0 (decide (N ≤ N)) (xs = xs ∧ Z2) False) False)) (by kernel_rfl) ?_
 conv => zeta
 try simp only [Zk]
 try simp only [Zn]
 try simp only [Zl]
 try simp only [Zo]
 try simp only [Zp]
 try simp only [Zi]
 try simp only [Int.toNat_natCast, Nat.zero_add, true_and, and_true, Nat.le_refl]
 refine ⟨fun hc => ?_, fun hc => hZ2 (by omega)⟩
 have hlt : i < n := by omega
 rw [hx hlt]
 obtain ⟨r1, r2, r3, r4, r5⟩ := hr hlt
 have hk := hk hlt
 have hB := hB hlt
 have hy := hy hlt
 have hN1 := hN1 hlt
 have hwr : i64.wrap ((i : Int) + 1) = ((i + 1 : Nat) : Int) := by rw [w64 (by omega)]; omega
 have k1 := hk.hash
 have k2 := hk.secret
 subst hW
 unfold Z0F at hy
 have l1 := X8 [x.id, x.amount] (xs ++ [bif x.own then 1 else 0])
 generalize ZZ ZE (xs ++ [bif x.own then 1 else 0]) [x.id, x.amount] = A1 at *
 have l2 := X8 [x.expiry, x.stage, x.fin] (A1 ++ x.hash)
 generalize hA2 : ZZ ZE (A1 ++ x.hash) [x.expiry, x.stage, x.fin] = A2 at *
 simp only [List.length_append, List.length_cons, List.length_nil] at *
 refine ⟨by omega, ⟨hN, by omega⟩, ⟨by omega, r1, r2⟩, ⟨by omega, k1⟩, ⟨by omega, r3, r4, r5⟩, fun hf => ?_, fun hf => ?_⟩
 ·have hf : x.fin = 1 := by simpa using hf
  have hy : ys = A2 ++ x.secret := by rw [hy, if_pos hf]
  subst hy
  rw [List.length_append] at hN1
  exact ⟨⟨by omega, k2⟩, hwr, by omega, by omega, rfl, hZ1 hlt⟩
 ·have hf : ¬ x.fin = 1 := by simpa using hf
  have hy : ys = A2 := by rw [hy, if_neg hf]
  subst hy
  exact ⟨hwr, by omega, by omega, rfl, hZ1 hlt⟩
theorem Z7u (xs : List Int) (h : Z9) (h1 : h.hash.length = 32) (h2 : h.secret.length = 32) : (Z0F ZE xs h).length ≤ xs.length + 110 := by
 have l1 := X8 [h.id, h.amount] (xs ++ [bif h.own then 1 else 0])
 have l2 := X8 [h.expiry, h.stage, h.fin] (ZZ ZE (xs ++ [bif h.own then 1 else 0]) [h.id, h.amount] ++ h.hash)
 unfold Z0F
 simp only [List.length_append, List.length_cons, List.length_nil] at *
 split
 ·rw [List.length_append]; omega
 ·omega
theorem Z0s {L : List Z9} (hL : ∀ h ∈ L, h.Ok) : ∀ xs, (L.foldl (Z0F ZE) xs).length ≤ xs.length + 110 * L.length := by
 induction L with
 | nil => simp
 | cons h r ih =>
  intro xs
  rw [List.foldl_cons, List.length_cons]
  have h1 := ih (fun z hz => hL z (by simp [hz])) (Z0F ZE xs h)
  have hk := hL h (by simp)
  have h2 := Z7u xs h hk.hash hk.secret
  omega
theorem Va {X : Za} (hf : X.t.fund.length = 32) (h0 : X.t.k0.length = 32) (h1 : X.t.k1.length = 32) : (Xv ZE X).length ≤ 300 := by
 have l1 := X8 [X.t.index, X.t.cap, X.t.dust, X.t.fee, X.t.delay] X.t.fund
 have l2 := X8 [X.side, X.res, X.a0, X.a1, X.i0, X.i1, (X.L.length : Int)] (ZZ ZE X.t.fund [X.t.index, X.t.cap, X.t.dust, X.t.fee, X.t.delay] ++ X.t.k0 ++ X.t.k1)
 unfold Xv
 simp only [List.length_append, List.length_cons, List.length_nil] at *
 omega
def Z7v (T : Int) (X : Za) : Prop := (0 ≤ X.t.index ∧ X.t.index ≤ T) ∧ (0 ≤ X.t.cap ∧ X.t.cap ≤ T) ∧ (0 ≤ X.t.dust ∧ X.t.dust ≤ T) ∧ (0 ≤ X.t.fee ∧ X.t.fee ≤ T) ∧ (0 ≤ X.t.delay ∧ X.t.delay ≤ T) ∧ (0 ≤ X.side ∧ X.side ≤ T) ∧ (0 ≤ X.res ∧ X.res ≤ T) ∧ (0 ≤ X.a0 ∧ X.a0 ≤ T) ∧ (0 ≤ X.a1 ∧ X.a1 ≤ T) ∧ (0 ≤ X.i0 ∧ X.i0 ≤ T) ∧ (0 ≤ X.i1 ∧ X.i1 ≤ T) ∧ 0 ≤ (X.L.length : Int) ∧ (X.L.length : Int) ≤ T
def Z3Z (T : Int) (B : Nat) (X : Za) (n : Nat) (hd : List Int) : Prop := X.L.length = n ∧ n ≤ 16 ∧ hd.length ≤ 300 ∧ 10000 ≤ B ∧ (∀ h ∈ X.L, Z8K T h ∧ h.Ok)
def Yu (X : Za) (hd : List Int) (i : Nat) : List Int := (X.L.take i).foldl (Z0F ZE) hd
theorem Zce (T : Int) (B : Nat) (X : Za) (n i : Nat) (hd : List Int) (hC : Z3Z T B X n hd) (hi : i ≤ n) : Ym (Z8I ZE T B) 20 26 0 0 (rwS X n i (Yu X hd i).length (Yu X hd i)) (rdM 0 0 9 (rwS X n (i + 1) (Yu X hd (i + 1)).length (Yu X hd (i + 1))) (rwE (Yu X hd i).length (Yu X hd i)) (rwE (Yu X hd i).length (Yu X hd i)) (rwE (Yu X hd i).length (Yu X hd i)) (i < n ∧ i < n) (i = n) False False) := by
 obtain ⟨h1, h2, h3, h4, h5⟩ := id hC
 have hlt : i < n → i < X.L.length := fun h => by omega
 have hl := Z0s (L := X.L.take i) (fun z hz => (h5 z (List.mem_of_mem_take hz)).2) hd
 have l0 : (X.L.take i).length ≤ 16 := by rw [List.length_take]; omega
 refine Zcd X n i _ _ B _ _ (X.L.getD i Zd) ZE T (i < n ∧ i < n) (i = n) (by omega) h1 hi (fun _ => rfl) rfl (fun _ => ?_) rfl (fun h => (h5 _ (ZU (hlt h))).1) (fun h => (h5 _ (ZU (hlt h))).2) (fun h => ?_) (fun _ => rfl) (fun h => ⟨h, h⟩) (fun h => h)
 ·unfold Yu; omega
 ·unfold Yu
  rw [Z2S (hlt h), List.foldl_append]; rfl
noncomputable def Z9q (W : Int → List Int) (T : Int) (B : Nat) (X : Za) (n N : Nat) (hd : List Int) (C : Prop) (E : Nat → St) : Zf := (Z8I W T B).withL 26 0 (goM 0 (rwS X n 0 N hd) C (W6 0 n 9 (fun i => i < n) (fun i => i = n) (fun _ => False) (fun _ => False) E E E))
theorem Z7w (X : Za) (n : Nat) (hd : List Int) : (Z9q ZE 4611686018427387904 80000000000000 X n hd.length hd (Z3Z 4611686018427387904 80000000000000 X n hd) (fun i => rwE (Yu X hd i).length (Yu X hd i))).Ok :=
 Zf.withGoM (N := 20) (S := fun i => rwS X n i (Yu X hd i).length (Yu X hd i)) Z8J (by kernel_rfl) fun hC => ⟨rfl, fun i hi _ => Zce _ _ X n i hd hC hi⟩
theorem Zcf (X : Za) (n N B l : Nat) (hd ys : List Int) (W : Int → List Int) (T : Int) (C : Prop) (XF : Nat → List Int) (hC : C) (hn : X.L.length = n) (hcap : X.t.cap ≠ 0) (hhd : hd = Xv W X) (hN : N = hd.length) (hy : ys = XF n) (hl : l = ys.length) (hl2 : ys.length < 90000000000000) (hf : X.t.fund.length = 32) (h0 : X.t.k0.length = 32) (h1 : X.t.k1.length = 32) (hB : 10000 ≤ B) (hW : W = ZE) (hT : Z7v T X) :
  evF (Z9q W T B X n N hd C fun i => rwE (XF i).length (XF i)) 20 26 [XN X] ⟨0, []⟩ (YK 0 (.ret (.nslice ⟨0, 0, 0, 0, 0⟩ 1 l l)) 1 [(0, .ints .u8 ys)]) := by
 refine @Eq.mpr _ (let q1 := X.t;
 let q2 := q1.cap;
 let q3 := decide (l = 0);
 let q4 := q1.fund;
 let q5 := q4 = q4;
 let q6 := q1.index;
 let q7 := decide (q6 = q6);
 let q8 := decide (q2 = q2);
 let q9 := q1.dust;
 let q10 := decide (q9 = q9);
 let q11 := q1.fee;
 let q12 := decide (q11 = q11);
 let q13 := q1.delay;
 let q14 := decide (q13 = q13);
 let q15 := q1.k0;
 let q16 := q15 = q15;
 let q17 := q1.k1;
 let q18 := q17 = q17;
 let q19 := ZZ W q4 [q6, q2, q9, q11, q13];
 let q20 := List.length q19;
 let q21 := q19 ++ q15 ++ q17;
 let q22 := List.length q21;
 let q23 := X.side;
 let q24 := X.res;
 let q25 := X.a0;
 let q26 := X.a1;
 let q27 := X.i0;
 let q28 := X.i1;
 let q29 := List.length X.L;
 let q30 := ↑q29;
 let q31 := decide (q29 = n);
 let q32 := Ze X.L;
 let q33 := ZZ W q21 [q23, q24, q25, q26, q27, q28, q30];
 let q34 := List.length q33;
 Z0 (q2 == 0) (Z0 q3 (Z0 q3 (ys = [] ∧ True) False) False)
 (q5 ∧
 Z0 q7
 (Z0 q8
 (Z0 q10
 (Z0 q12
 (Z0 q14
 (q16 ∧
 q18 ∧
 q5 ∧
 Z0 q7
 (Z0 q8
 (Z0 q10
 (Z0 q12
 (Z0 q14
 (q16 ∧
 q18 ∧
 q5 ∧
 Z0 q7
 (Z0 q8
 (Z0 q10
 (Z0 q12
 (Z0 q14
 (q16 ∧
 q18 ∧
 Z0 (decide (List.length q4 = 32))
 (Z0 (decide (List.length q4 = 32 ∧ (32 : Nat) = 32 ∧ 32 < B ∧ (0 ≤ q6 ∧ q6 ≤ T) ∧ (0 ≤ q2 ∧ q2 ≤ T) ∧ (0 ≤ q9 ∧ q9 ≤ T) ∧ (0 ≤ q11 ∧ q11 ≤ T) ∧ 0 ≤ q13 ∧ q13 ≤ T))
 (Z0 (decide (q20 = q20 ∧ q20 = q20 ∧ q20 < B ∧ List.length q15 = 32 ∧ List.length q17 = 32))
 (Z0 (decide (q22 = q22 ∧ q22 = q22 ∧ q22 < B ∧ (0 ≤ q23 ∧ q23 ≤ T) ∧ (0 ≤ q24 ∧ q24 ≤ T) ∧ (0 ≤ q25 ∧ q25 ≤ T) ∧ (0 ≤ q26 ∧ q26 ≤ T) ∧ (0 ≤ q27 ∧ q27 ≤ T) ∧ (0 ≤ q28 ∧ q28 ≤ T) ∧ 0 ≤ q30 ∧ q30 ≤ T))
 (Z0 (decide (q30 = ↑n))
 (Z0 q31
 (q32 = q32 ∧
 Z0 q31
 (Z0 (decide (q34 = N))
 (Z0 (decide (N ≤ q34))
 (q33 = hd ∧
 C ∧
 ∀ (i : Nat),
 let q69 := List.length (XF i);
 let q70 := List.take q69 (Yx 0 (XF i));
 i ≤ n → (∀ (j : Nat), j < i → (fun (i : Nat) => i < n) j) → (i = n → Z0 (decide (0 + q69 ≤ q69)) (Z0 (decide (List.length q70 = q69 ∧ q69 < 90000000000000)) (Z0 (decide (q69 = l)) (Z0 (decide (l ≤ q69)) (q70 = ys ∧ True) False) False) False) False) ∧ (False → False) ∧ (False → False))
 False)
 False)
 False)
 False)
 False)
 False)
 False)
 False)
 False)
 False)
 False)
 False)
 False)
 False)
 False)
 False)
 False)
 False)
 False)
 False)
 False)
 False)
 False)
 False)) (by kernel_rfl) ?_
 conv => zeta
 try simp only [Zk]
 try simp only [Zn]
 try simp only [Zl]
 try simp only [Zo]
 try simp only [Zp]
 try simp only [Zi]
 try simp only [Int.toNat_natCast, Nat.zero_add, true_and, and_true, Nat.le_refl]
 subst hy hN
 obtain ⟨t1, t2, t3, t4, t5, t6, t7, t8, t9, t10, t11, t12⟩ := hT
 have hlen := Va hf h0 h1
 have e : List.take (XF n).length (Yx 0 (XF n)) = XF n := by rw [Yg, List.drop_zero, List.take_length]
 subst hW
 have l1 := X8 [X.t.index, X.t.cap, X.t.dust, X.t.fee, X.t.delay] X.t.fund
 have hhd' := hhd
 unfold Xv at hhd
 rw [← hhd]
 have hlen : hd.length ≤ 300 := by rw [hhd']; exact hlen
 simp only [List.length_append, List.length_cons, List.length_nil] at l1 ⊢
 refine ⟨fun h => absurd h (by simpa using hcap), fun _ => ⟨hf, ⟨hf, by omega, t1, t2, t3, t4, t5⟩, ⟨by omega, h0, h1⟩, ⟨by omega, t6, t7, t8, t9, t10, t11, t12⟩, by rw [hn], hn, hn, trivial, Nat.le_refl _, trivial, hC, fun i hi _ => ⟨fun he => ?_, fun h => h, fun h => h⟩⟩⟩
 subst he
 rw [e]
 exact ⟨⟨rfl, hl2⟩, hl.symm, Nat.le_of_eq hl, rfl⟩
theorem Z8L {H : List Int → List Int} {h : Z9} (hf : Z73 H h = true) : 0 ≤ h.fin ∧ h.fin ≤ 2 := by
 unfold Z73 at hf
 by_cases h0 : h.fin = 0
 ·omega
 ·rw [if_neg h0] at hf
  by_cases h1 : h.fin = 1
  ·omega
  ·rw [if_neg h1] at hf
   by_cases h2 : h.fin = 2
   ·omega
   ·rw [if_neg h2] at hf; cases hf
theorem Za.Inv.hnum {H : List Int → List Int} {X : Za} (h : X.Inv H) : ∀ z ∈ X.L, Z8K 4611686018427387904 z ∧ z.Ok := fun z hz => by
 obtain ⟨u1, u2, u3, u4⟩ := Z0n (h.und z hz)
 have := Z8F u1
 have := Z8L u4
 exact ⟨⟨by omega, by omega, by omega, by omega, by omega⟩, h.ok z hz⟩
theorem Za.Inv.hdnum {H : List Int → List Int} {X : Za} (h : X.Inv H) : Z7v 4611686018427387904 X := by
 have := ZX h.tb
 have := h.side
 have := h.res
 have := h.a0
 have := h.a1
 have := h.i0
 have := h.i1
 have := h.len
 refine ⟨?_, ?_, ?_, ?_, ?_, ?_, ?_, ?_, ?_, ?_, ?_, ?_⟩ <;> omega
theorem Za.Inv.rw' {H : List Int → List Int} {X : Za} (h : X.Inv H) (hf : X.t.fund.length = 32) : Z3Z 4611686018427387904 80000000000000 X X.L.length (Xv ZE X) :=
 ⟨rfl, h.len, Va hf h.tok.k0 h.tok.k1, by decide, h.hnum⟩
theorem Za.Inv.rawLen {H : List Int → List Int} {X : Za} (h : X.Inv H) (hf : X.t.fund.length = 32) : (W7 ZE X).length ≤ 3000 := by
 have h1 := Z0s (L := X.L) (fun z hz => h.ok z hz) (Xv ZE X)
 have h2 := Va hf h.tok.k0 h.tok.k1
 have := h.len
 unfold W7; omega
def Z9r (W : Int → List Int) : Yz := fun args h K => ZI none h true 20 args fun a => match a with
 | [.pview cs 0] => ∃ X, LV cs X ∧ X.Inv Y0 ∧ X.t.fund.length = 32 ∧ K (.ret (.nslice ⟨h.next, 0, 0, 0, 0⟩ 1 (W7 W X).length (W7 W X).length)) ⟨h.next + 1, (h.next, .ints .u8 (W7 W X)) :: h.bs⟩
 | _ => False
theorem Z7x (args : List AV) (h : Z5) (K : KO) (hl : Z9r ZE args h K) : Zc PP 26 args h K := by
 refine Zx.fsumm (d := 20) (Zq _ _ _ _ _ hl fun a ha => ?_)
 split at ha
 ·obtain ⟨X, hX, hI, hf, hK⟩ := ha
  have hv := Zcf X X.L.length _ 80000000000000 _ (Xv ZE X) (W7 ZE X) ZE 4611686018427387904 (Z3Z 4611686018427387904 80000000000000 X X.L.length (Xv ZE X)) (Yu X (Xv ZE X)) (hI.rw' hf) rfl (YZ hI.tb) rfl rfl (by unfold Yu; rw [List.take_length]; rfl) rfl (by have := hI.rawLen hf; omega) hf hI.tok.k0 hI.tok.k1 (by decide) rfl hI.hdnum
  exact ⟨_, _, _, _, (Zx.evM (Z7w X _ _) hv).conv fun E r hr => hr.head (fun _ hc => Xu hX hc) fun _ hc => hc, rfl, ⟨Nat.one_pos, .ints _ _, trivial⟩, hK⟩
 ·exact ha.elim
end Go.Tk
end
section
namespace Go.Tk
open IntKind (i64 u8 u32 u64 wrap)
noncomputable def XG : Code := rfA PP 17 0
noncomputable def XH : Code := rfB PP 17 0
noncomputable def Zal : Zf := G0.withF 44 Zaf
theorem Z4J : Zal.Ok := Zf.withF_ok Zv Z4G
noncomputable def Z7y (L : List Z9) (own : Bool) (id : Int) (n i : Nat) (ls : LoopState) (pe : Option Code) (R : Z9) (b : Bool) : St := ⟨17, [(0, .yield 7), (5, .nslice ⟨4, 0, 70, 0, 0⟩ 70 n n), (6, .int .i64 n), (7, .int .i64 i)], ⟨8, [(7, .loop ⟨ls, pe, 17, 27, [(4, pt 0), (5, pt 1), (6, pt 2), (7, pt 3)], [14], XG, XH, 6⟩), (6, .defd), (4, .rows 70 n (Ze L)), (3, .flat [.bool b]), (2, .flat R.c), (1, .flat [.int .i64 id]), (0, .flat [.bool own])]⟩, []⟩
noncomputable def Z5C (ls : LoopState) (pe : Option Code) (R : Z9) (b : Bool) : St := ⟨17, [(0, .yield 7)], ⟨8, [(7, .loop ⟨ls, pe, 17, 27, [(6, pt 2), (7, pt 3)], [14], XG, XH, 6⟩), (6, .defd), (3, .flat [.bool b]), (2, .flat R.c)]⟩, []⟩
theorem Zba (L : List Z9) (own : Bool) (id : Int) (n i : Nat) (x : Z9) (ls : LoopState) (pe : Option Code) (R : Z9) (b : Bool) (Z1 Z2 : Prop) (hn : n < 1000) (hL : L.length = n) (hi : i ≤ n) (hxx : i < n → L.getD i Zd = x) (hx : i = n → (ls = .ready ∧ pe = none ∧ R = Zd ∧ b = false) ∧ Z2) (hbk : i < n → isP own id x → (ls = .done ∧ pe = some .ret ∧ R = x ∧ b = true) ∧ Z2) (hgo : i < n → ¬ isP own id x → Z1) :
  Ym Zal 20 45 0 8 (Z7y L own id n i .ready none Zd false) (rdM 8 0 9 (Z7y L own id n (i + 1) .ready none Zd false) (Z5C ls pe R b) (Z5C ls pe R b) (Z5C ls pe R b) Z1 Z2 False False) := by
 refine @Eq.mpr _ (let q1 := 0 + Int.toNat (↑i : Int);
 let q2 := List.getD L q1 Zd;
 let q3 := q2.own;
 let q4 := q2.id;
 let q5 := (17 : FuncId) = 17 ∧ (27 : Nat) = 27 ∧ [(14 : Nat)] = [(14 : Nat)] ∧ XG = XG ∧ XH = XH;
 let q6 := decide (n = n);
 let q7 := Zd.hash;
 let q8 := Zd.secret;
 let q9 := Z0 q6 (Z0 (decide (n ≤ n)) (Z0 (decide ((↑n : Int) = (↑n : Int))) (Z0 (decide (wrap i64 ((↑i : Int) + 1) = (↑(i + 1) : Int))) ((LoopState.ready = LoopState.ready ∧ (none : Option Code) = none ∧ q5) ∧ Z0 q6 (Y3 8 [] n (Ze L) (Ze L) ∧ q7 = q7 ∧ q8 = q8 ∧ Z0 (decide (id = id)) (Z0 (decide (own = own)) Z1 False) False) False) False) False) False) False;
 Z0 (decide ((↑i : Int) < (↑n : Int))) (Z0 (decide (0 ≤ (↑i : Int) ∧ (↑i : Int) < (↑n : Int))) (Z0 (decide (q1 < n)) (Z0 (q3 == own) (Z0 (q4 == id) ((LoopState.done = ls ∧ some Code.ret = pe ∧ q5) ∧ Z0 (decide (true = b)) (Z0 (decide (q3 = R.own)) (Z0 (decide (q4 = R.id)) (Z0 (decide (q2.amount = R.amount)) (q2.hash = R.hash ∧ Z0 (decide (q2.expiry = R.expiry)) (Z0 (decide (q2.stage = R.stage)) (Z0 (decide (q2.fin = R.fin)) (q2.secret = R.secret ∧ Z2) False) False) False) False) False) False) False) q9) q9) False) False) ((LoopState.ready = ls ∧ none = pe ∧ q5) ∧ Z0 (decide (false = b)) (Z0 (decide (Zd.own = R.own)) (Z0 (decide (Zd.id = R.id)) (Z0 (decide (Zd.amount = R.amount)) (q7 = R.hash ∧ Z0 (decide (Zd.expiry = R.expiry)) (Z0 (decide (Zd.stage = R.stage)) (Z0 (decide (Zd.fin = R.fin)) (q8 = R.secret ∧ Z2) False) False) False) False) False) False) False)) (by kernel_rfl) ?_
 conv => zeta
 try simp only [Zk]
 try simp only [Zn]
 try simp only [Zl]
 try simp only [Zo]
 try simp only [Zp]
 try simp only [Zi]
 try simp only [Int.toNat_natCast, Nat.zero_add, true_and, and_true, Nat.le_refl]
 refine ⟨fun hc => ?_, fun hc => ?_⟩
 ·have hlt : i < n := by omega
  rw [hxx hlt]
  have hwr : i64.wrap ((i : Int) + 1) = ((i + 1 : Nat) : Int) := by rw [w64 (by omega)]; omega
  have hR : ∀ τ, Y3 8 τ n (Ze L) (Ze L) := fun τ => ZW fun _ _ => rfl
  refine ⟨by omega, hlt, fun h1 => ⟨fun h2 => ?_, fun h2 => ?_⟩, fun h1 => ?_⟩
  ·obtain ⟨⟨e1, e2, e3, e4⟩, hz⟩ := hbk hlt ⟨by simpa using h1, by simpa using h2⟩
   subst e1 e2 e3 e4
   exact ⟨⟨rfl, rfl⟩, rfl, rfl, rfl, rfl, rfl, rfl, rfl, rfl, rfl, hz⟩
  ·exact ⟨hwr, hR _, hgo hlt fun h => by have := h.2; simp [this] at h2⟩
  ·exact ⟨hwr, hR _, hgo hlt fun h => by have := h.1; simp [this] at h1⟩
 ·obtain ⟨⟨e1, e2, e3, e4⟩, hz⟩ := hx (by omega)
  subst e1 e2 e3 e4
  exact ⟨⟨rfl, rfl⟩, rfl, rfl, rfl, rfl, rfl, rfl, rfl, rfl, rfl, hz⟩
noncomputable def Z4K (L : List Z9) (own : Bool) (id : Int) (n J : Nat) (ls : LoopState) (pe : Option Code) (R : Z9) (b : Bool) (C : Prop) : Zf := Zal.withL 45 0 (goM 8 (Z7y L own id n 0 .ready none Zd false) C (W6 0 J 9 (fun i => i < J) (fun i => i = J) (fun _ => False) (fun _ => False) (fun _ => Z5C ls pe R b) (fun _ => Z5C ls pe R b) (fun _ => Z5C ls pe R b)))
theorem Z8M (L : List Z9) (own : Bool) (id : Int) (n : Nat) (hn : n < 1000) (hL : L.length = n) (hno : ∀ i, i < n → ¬ isP own id (L.getD i Zd)) : (Z4K L own id n n .ready none Zd false True).Ok := by
 refine Zf.withGoM (N := 20) (S := fun i => Z7y L own id n i .ready none Zd false) Z4J (by kernel_rfl) fun _ => ⟨rfl, fun i hi _ => ?_⟩
 exact Zba L own id n i (L.getD i Zd) .ready none Zd false _ _ hn hL hi (fun _ => rfl) (fun h => ⟨⟨rfl, rfl, rfl, rfl⟩, h⟩) (fun h h' => absurd h' (hno i h)) (fun h _ => ⟨h, h⟩)
theorem Z8N (L : List Z9) (own : Bool) (id : Int) (n J : Nat) (hn : n < 1000) (hL : L.length = n) (hJ : J < n) (hyes : isP own id (L.getD J Zd)) (hno : ∀ i, i < J → ¬ isP own id (L.getD i Zd)) : (Z4K L own id n J .done (some .ret) (L.getD J Zd) true True).Ok := by
 refine Zf.withGoM (N := 20) (S := fun i => Z7y L own id n i .ready none Zd false) Z4J (by kernel_rfl) fun _ => ⟨rfl, fun i hi _ => ?_⟩
 refine Zba L own id n i (L.getD i Zd) .done (some .ret) _ true _ _ hn hL (by omega) (fun _ => rfl) (fun h => absurd h (by omega)) (fun h h' => ?_) (fun h h' => ?_)
 ·have : i = J := by
   rcases Nat.lt_or_ge i J with q | q
   ·exact absurd h' (hno i q)
   ·omega
  subst this
  exact ⟨⟨rfl, rfl, rfl, rfl⟩, rfl⟩
 ·have : i ≠ J := fun e => by subst e; exact h' hyes
  exact ⟨by omega, by omega⟩
theorem fdA (X : Za) (own : Bool) (id : Int) (n J : Nat) (C : Prop) (hC : C) (hn : X.L.length = n) (hn2 : n < 1000) (hcap : X.t.cap ≠ 0) :
  evF (Z4K X.L own id n J .ready none Zd false C) 20 17 [XN X, .bool own, .int .i64 id] ⟨0, []⟩ (Yn fun v => v = .tuple [.agg Zd.c, .bool false]) := by
 refine @Eq.mpr _ (let q1 := X.t.cap == 0;
 let q2 := AV.int i64 0;
 let q3 := AV.arr u8 32 ZG;
 let q4 := [AV.bool false];
 let q5 := AV.tuple (AV.agg [AV.bool false, q2, q2, q3, q2, q2, q2, q3] :: q4) = AV.tuple (AV.agg (Z9.c Zd) :: q4);
 let q6 := List.length X.L;
 let q7 := Ze X.L;
 let q8 := decide (q6 = n);
 Z0 (!q1) (Z0 q1 q5 (∃ (L : List Z9), q6 = q6 ∧ q7 = Ze L ∧ q6 < 1000000 ∧ Z0 q8 (Z0 (decide (n ≤ q6)) (Z0 (decide ((↑q6 : Int) = (↑n : Int))) ((LoopState.ready = LoopState.ready ∧ (none : Option Code) = none ∧ (17 : FuncId) = 17 ∧ (27 : Nat) = 27 ∧ [(14 : Nat)] = [(14 : Nat)] ∧ XG = XG ∧ XH = XH) ∧ Z0 q8 (Y3 8 [] n q7 (Ze L) ∧ ZG = Zd.hash ∧ ZG = Zd.secret ∧ Z0 (decide (id = id)) (Z0 (decide (own = own)) (C ∧ ∀ (i : Nat), i ≤ J → (∀ (j : Nat), j < i → (fun (i : Nat) => i < J) j) → (i = J → q5) ∧ (False → q5) ∧ (False → False)) False) False) False) False) False) False)) q5) (by kernel_rfl) ?_
 conv => zeta
 try simp only [Zk]
 try simp only [Zn]
 try simp only [Zl]
 try simp only [Zo]
 try simp only [Zp]
 try simp only [Zi]
 try simp only [Int.toNat_natCast, Nat.zero_add, true_and, and_true, Nat.le_refl]
 subst hn
 refine ⟨fun _ => ⟨fun h => absurd h (by simpa using hcap), fun _ => ⟨X.L, rfl, by omega, rfl, Nat.le_refl _, rfl, rfl, ZW fun _ _ => rfl, rfl, rfl, hC, fun i _ _ => ⟨fun _ => rfl, fun _ => rfl, fun h => h⟩⟩⟩, fun h => absurd h (by simpa using hcap)⟩
theorem fdB (X : Za) (own : Bool) (id : Int) (n J : Nat) (C : Prop) (R : Z9) (hC : C) (hn : X.L.length = n) (hn2 : n < 1000) (hcap : X.t.cap ≠ 0) :
  evF (Z4K X.L own id n J .done (some .ret) R true C) 20 17 [XN X, .bool own, .int .i64 id] ⟨0, []⟩ (Yn fun v => v = .tuple [.agg R.c, .bool true]) := by
 refine @Eq.mpr _ (let q1 := X.t.cap == 0;
 let q2 := AV.int i64 0;
 let q3 := AV.arr u8 32 ZG;
 let q4 := [AV.bool true];
 let q5 := AV.tuple (AV.agg (Z9.c R) :: q4);
 let q6 := AV.tuple [AV.agg [AV.bool false, q2, q2, q3, q2, q2, q2, q3], AV.bool false] = q5;
 let q7 := List.length X.L;
 let q8 := Ze X.L;
 let q9 := decide (q7 = n);
 let q10 := AV.tuple (AV.agg [AV.bool R.own, AV.int i64 R.id, AV.int i64 R.amount, AV.arr u8 32 R.hash, AV.int i64 R.expiry, AV.int i64 R.stage, AV.int i64 R.fin, AV.arr u8 32 R.secret] :: q4) = q5;
 Z0 (!q1) (Z0 q1 q6 (∃ (L : List Z9), q7 = q7 ∧ q8 = Ze L ∧ q7 < 1000000 ∧ Z0 q9 (Z0 (decide (n ≤ q7)) (Z0 (decide ((↑q7 : Int) = (↑n : Int))) ((LoopState.ready = LoopState.ready ∧ (none : Option Code) = none ∧ (17 : FuncId) = 17 ∧ (27 : Nat) = 27 ∧ [(14 : Nat)] = [(14 : Nat)] ∧ XG = XG ∧ XH = XH) ∧ Z0 q9 (Y3 8 [] n q8 (Ze L) ∧ ZG = Zd.hash ∧ ZG = Zd.secret ∧ Z0 (decide (id = id)) (Z0 (decide (own = own)) (C ∧ ∀ (i : Nat), i ≤ J → (∀ (j : Nat), j < i → (fun (i : Nat) => i < J) j) → (i = J → q10) ∧ (False → q10) ∧ (False → False)) False) False) False) False) False) False)) q6) (by kernel_rfl) ?_
 conv => zeta
 try simp only [Zk]
 try simp only [Zn]
 try simp only [Zl]
 try simp only [Zo]
 try simp only [Zp]
 try simp only [Zi]
 try simp only [Int.toNat_natCast, Nat.zero_add, true_and, and_true, Nat.le_refl]
 subst hn
 refine ⟨fun _ => ⟨fun h => absurd h (by simpa using hcap), fun _ => ⟨X.L, rfl, by omega, rfl, Nat.le_refl _, rfl, rfl, ZW fun _ _ => rfl, rfl, rfl, hC, fun i _ _ => ⟨fun _ => rfl, fun _ => rfl, fun h => h⟩⟩⟩, fun h => absurd h (by simpa using hcap)⟩
theorem Wp {own : Bool} {id : Int} : ∀ {L : List Z9}, (∀ j, j < X5 own id L → ¬ isP own id (L.getD j Zd)) ∧ (X5 own id L < L.length → isP own id (L.getD (X5 own id L) Zd)) ∧ X5 own id L ≤ L.length
 | [] => ⟨fun j hj => by simp [X5] at hj, fun h => by simp [X5] at h, Nat.le_refl _⟩
 | x :: r => by
  obtain ⟨h1, h2, h3⟩ := Wp (own := own) (id := id) (L := r)
  unfold X5
  split
  ·rename_i h
   exact ⟨fun j hj => absurd hj (Nat.not_lt_zero _), fun _ => h, Nat.zero_le _⟩
  ·rename_i h
   refine ⟨fun j hj => ?_, fun hl => ?_, by rw [List.length_cons]; omega⟩
   ·cases j with
    | zero => exact h
    | succ j => rw [List.getD_cons_succ]; exact h1 j (by omega)
   ·rw [List.getD_cons_succ]; exact h2 (by rw [List.length_cons] at hl; omega)
def fdH (L : List Z9) (own : Bool) (id : Int) : Z9 × Bool := if X5 own id L < L.length then (L.getD (X5 own id L) Zd, true) else (Zd, false)
theorem Z5D {X : Za} (hn : X.L.length < 1000) (hcap : X.t.cap ≠ 0) (own : Bool) (id : Int) : Zx PP 17 [XN X, .bool own, .int .i64 id] (.tuple [.agg (fdH X.L own id).1.c, .bool (fdH X.L own id).2]) 0 [] := by
 obtain ⟨h1, h2, h3⟩ := Wp (own := own) (id := id) (L := X.L)
 unfold fdH
 by_cases h : X5 own id X.L < X.L.length
 ·rw [if_pos h]
  exact Zx.evV (Z8N X.L own id _ _ hn rfl h (h2 h) h1) (fdB X own id _ _ True _ trivial rfl hn hcap)
 ·rw [if_neg h]
  exact Zx.evV (Z8M X.L own id _ hn rfl fun i hi => h1 i (by omega)) (fdA X own id _ _ True trivial rfl hn hcap)
def Zam : ZQ := fun args h K => ZI none h true 20 args fun a => match a with
 | [.pview cs 0, .bool own, .int .i64 id] => ∃ X, LV cs X ∧ X.L.length < 1000 ∧ X.t.cap ≠ 0 ∧ K (.tuple [.agg (fdH X.L own id).1.c, .bool (fdH X.L own id).2])
 | _ => False
theorem Z5E (args : List AV) (h : Z5) (K : AV → Prop) (hl : Zam args h K) : Zc PP 17 args h fun o h' => ∃ v, o = .ret v ∧ h' = h ∧ K v := by
 refine Zx.psumm (d := 20) (Zq _ _ _ _ _ hl fun a ha => ?_)
 split at ha
 ·obtain ⟨X, hX, h1, h2, hK⟩ := ha
  exact ⟨_, (Z5D h1 h2 _ _).conv fun E r hr => hr.head (fun _ hc => Xu hX hc) fun _ hc => hc, fun _ => rfl, hK⟩
 ·exact ha.elim
end Go.Tk
end
section
namespace Go.Tk
open IntKind (i64 u8 u32 u64 wrap)
def UY (side s : Int) (p : Int × Nat) (h : Z9) : Int × Nat := if Wm side h.own = s ∧ p.1 ≤ 1125899906842624 then (p.1 + h.amount, p.2 + 1) else p
def offD (side s : Int) (L : List Z9) : Int × Nat := L.foldl (UY side s) (0, 0)
theorem Z1d {α β : Type} (g : β → α → β) (d : α) {L : List α} {i : Nat} (hi : i < L.length) (b : β) : (L.take (i + 1)).foldl g b = g ((L.take i).foldl g b) (L.getD i d) := by
 rw [List.take_succ_eq_append_getElem hi, List.foldl_append, List.getD_eq_getElem?_getD, List.getElem?_eq_getElem hi]; rfl
theorem Z1e {side s : Int} {L : List Z9} (hA : ∀ h ∈ L, 0 ≤ h.amount ∧ h.amount ≤ 1125899906842624) : ∀ i, i ≤ L.length → (0 ≤ (offD side s (L.take i)).1 ∧ (offD side s (L.take i)).1 ≤ 2251799813685248) ∧ (offD side s (L.take i)).2 ≤ i
 | 0, _ => by simp [offD]
 | i + 1, hi => by
  obtain ⟨h1, h2⟩ := Z1e (side := side) (s := s) hA i (by omega)
  unfold offD at *
  rw [Z1d (UY side s) Zd (by omega)]
  generalize List.foldl (UY side s) (0, 0) (L.take i) = p at *
  have := hA _ (ZU (L := L) (i := i) (by omega))
  unfold UY
  split
  ·rename_i hc
   constructor <;> dsimp only <;> omega
  ·omega
def Z8O (X : Za) (s : Int) (n i : Nat) (a : Int) (c : Nat) : St := ⟨42, [(8, .int .i64 i), (2, .ptr (some ⟨0, 0, 0, 0, 0⟩)), (1, .int .i64 s), (6, .int .i64 a), (7, .int .i64 c)], ⟨1, [(0, .flat (X.c (.vrows 70 n (Ze X.L) n)))]⟩, []⟩
def Z7z (a : Int) (c : Nat) : St := ⟨42, [(6, .int .i64 a), (7, .int .i64 c)], ⟨0, []⟩, []⟩
theorem Zcg (X : Za) (s : Int) (n i : Nat) (x : Z9) (a a1 : Int) (c c1 : Nat) (Z1 Z2 : Prop) (hn : n < 1000) (hL : X.L.length = n) (hi : i ≤ n) (hX : YI X) (hx : i < n → X.L.getD i Zd = x) (ha : i < n → (0 ≤ a ∧ a ≤ 2251799813685248) ∧ 0 ≤ x.amount ∧ x.amount ≤ 1125899906842624) (hc : i < n → c < 1000) (h1 : i < n → (a1, c1) = UY X.side s (a, c) x) (hZ1 : i < n → Z1) (hZ2 : i = n → Z2) :
  Ym G0 20 81 0 0 (Z8O X s n i a c) (rdM 0 0 9 (Z8O X s n (i + 1) a1 c1) (Z7z a c) (Z7z a c) (Z7z a c) Z1 Z2 False False) := by
 refine @Eq.mpr _ (let q1 := decide (0 ≤ (↑i : Int) ∧ (↑i : Int) < (↑n : Int));
 let q2 := List.getD X.L (Int.toNat (↑i : Int)) Zd;
 let q3 := X.side;
 let q4 := decide (wrap i64 ((↑i : Int) + 1) = (↑(i + 1) : Int));
 let q5 := decide (s = s);
 let q6 := X.t;
 let q7 := q6.fund;
 let q8 := q6.index;
 let q9 := q6.cap;
 let q10 := q6.dust;
 let q11 := q6.fee;
 let q12 := q6.delay;
 let q13 := q6.k0;
 let q14 := q6.k1;
 let q15 := [X.a0, X.a1];
 let q16 := [X.i0, X.i1];
 let q17 := decide (n = n);
 let q18 := Ze X.L;
 let q19 := q7 = q7 ∧ Z0 (decide (q8 = q8)) (Z0 (decide (q9 = q9)) (Z0 (decide (q10 = q10)) (Z0 (decide (q11 = q11)) (Z0 (decide (q12 = q12)) (q13 = q13 ∧ q14 = q14 ∧ Z0 (decide (q3 = q3)) (Z0 (decide (X.res = X.res)) (q15 = q15 ∧ q16 = q16 ∧ Z0 q17 (q18 = q18 ∧ Z0 q17 Z1 False) False) False) False) False) False) False) False) False;
 let q20 := Z0 q4 (Z0 q5 (Z0 (decide (a = a1)) (Z0 (decide ((↑c : Int) = (↑c1 : Int))) q19 False) False) False) False;
 let q21 := Z0 (decide (a ≤ 1125899906842624)) (Z0 q1 (Z0 q4 (Z0 q5 (Z0 (decide (wrap i64 (a + q2.amount) = a1)) (Z0 (decide (wrap i64 ((↑c : Int) + 1) = (↑c1 : Int))) q19 False) False) False) False) False) q20;
 Z0 (decide ((↑i : Int) < (↑n : Int))) (Z0 q1 (Z0 q2.own (Z0 (q3 == s) q21 q20) (Z0 (wrap i64 (1 - q3) == s) q21 q20)) False) (Z0 (decide (a = a)) (Z0 (decide ((↑c : Int) = (↑c : Int))) Z2 False) False)) (by kernel_rfl) ?_
 conv => zeta
 try simp only [Zk]
 try simp only [Zn]
 try simp only [Zl]
 try simp only [Zo]
 try simp only [Zp]
 try simp only [Zi]
 try simp only [Int.toNat_natCast, Nat.zero_add, true_and, and_true, Nat.le_refl]
 refine ⟨fun hc' => ?_, fun hc' => hZ2 (by omega)⟩
 have hlt : i < n := by omega
 rw [hx hlt]
 obtain ⟨s1, s2⟩ := hX
 have ha := ha hlt
 have hc := hc hlt
 have h1 := h1 hlt
 have hwr : i64.wrap ((i : Int) + 1) = ((i + 1 : Nat) : Int) := by rw [w64 (by omega)]; omega
 have hwf : i64.wrap (1 - X.side) = 1 - X.side := w64 (by omega)
 have hwa : i64.wrap (a + x.amount) = a + x.amount := w64 (by omega)
 have hwc : i64.wrap ((c : Int) + 1) = (c : Int) + 1 := w64 (by omega)
 rw [hwr, hwf, hwa, hwc]
 unfold UY at h1
 refine ⟨by omega, fun ho => ⟨fun hq => ⟨fun hm => ?_, fun hm => ?_⟩, fun hq => ?_⟩, fun ho => ⟨fun hq => ⟨fun hm => ?_, fun hm => ?_⟩, fun hq => ?_⟩⟩
 all_goals rw [ho] at h1
 all_goals simp only [Wm] at h1
 all_goals try (have hq : ¬ X.side = s := by simpa using hq)
 all_goals try (have hq : X.side = s := by simpa using hq)
 all_goals try (have hq : ¬ 1 - X.side = s := by simpa using hq)
 all_goals try (have hq : 1 - X.side = s := by simpa using hq)
 all_goals first | simp only [hq, hm, true_and, false_and, and_true, and_false, if_true, if_false, not_false_iff] at h1 | simp only [hq, true_and, false_and, if_true, if_false] at h1
 all_goals simp only [Prod.mk.injEq] at h1
 all_goals obtain ⟨e1, e2⟩ := h1
 all_goals repeat' apply And.intro
 all_goals first | omega | exact hZ1 hlt | rfl
def Z8P (X : Za) (n : Nat) : Prop := X.L.length = n ∧ n < 1000 ∧ YI X ∧ ∀ h ∈ X.L, 0 ≤ h.amount ∧ h.amount ≤ 1125899906842624
noncomputable def Zbb (X : Za) (s : Int) (n : Nat) (C : Prop) (E : Nat → St) : Zf := G0.withL 81 0 (goM 0 (Z8O X s n 0 0 0) C (W6 0 n 9 (fun i => i < n) (fun i => i = n) (fun _ => False) (fun _ => False) E E E))
theorem Z8Q (X : Za) (s : Int) (n : Nat) : (Zbb X s n (Z8P X n) (fun i => Z7z (offD X.side s (X.L.take i)).1 (offD X.side s (X.L.take i)).2)).Ok := by
 refine Zf.withGoM (N := 20) (S := fun i => Z8O X s n i (offD X.side s (X.L.take i)).1 (offD X.side s (X.L.take i)).2) Zv (by kernel_rfl) fun hC => ⟨rfl, fun i hi _ => ?_⟩
 obtain ⟨h1, h2, h3, h4⟩ := hC
 have hlt : i < n → i < X.L.length := fun h => by omega
 obtain ⟨b1, b2⟩ := Z1e (side := X.side) (s := s) h4 i (by omega)
 refine Zcg X s n i (X.L.getD i Zd) _ _ _ _ _ _ h2 h1 hi h3 (fun _ => rfl) (fun h => ⟨b1, h4 _ (ZU (hlt h))⟩) (fun h => by omega) (fun h => ?_) (fun h => ⟨h, h⟩) (fun h => h)
 show offD X.side s (X.L.take (i + 1)) = _
 unfold offD
 rw [Z1d (UY X.side s) Zd (hlt h)]
theorem Zch (X : Za) (s : Int) (n : Nat) (a : Int) (c : Nat) (C : Prop) (AF : Nat → Int) (CF : Nat → Nat) (hC : C) (hn : X.L.length = n) (ha : a = AF n) (hc : c = CF n) :
  evF (Zbb X s n C fun i => Z7z (AF i) (CF i)) 20 81 [.agg (X.c (.vrows 70 n (Ze X.L) n)), .int .i64 s] ⟨0, []⟩ (Yn (fun v => v = .tuple [.int .i64 a, .int .i64 c])) := by
 refine @Eq.mpr _ (let q1 := X.t;
 let q2 := q1.fund;
 let q3 := q1.index;
 let q4 := q1.cap;
 let q5 := q1.dust;
 let q6 := q1.fee;
 let q7 := q1.delay;
 let q8 := q1.k0;
 let q9 := q1.k1;
 let q10 := [X.a0, X.a1];
 let q11 := [X.i0, X.i1];
 let q12 := decide (n = n);
 let q13 := Ze X.L;
 Z0 (decide (s = s)) (q2 = q2 ∧ Z0 (decide (q3 = q3)) (Z0 (decide (q4 = q4)) (Z0 (decide (q5 = q5)) (Z0 (decide (q6 = q6)) (Z0 (decide (q7 = q7)) (q8 = q8 ∧ q9 = q9 ∧ Z0 (decide (X.side = X.side)) (Z0 (decide (X.res = X.res)) (q10 = q10 ∧ q11 = q11 ∧ Z0 q12 (q13 = q13 ∧ Z0 q12 (C ∧ ∀ (i : Nat), i ≤ n → (∀ (j : Nat), j < i → (fun (i : Nat) => i < n) j) → (i = n → AV.tuple [AV.int i64 (AF i), AV.int i64 ↑(CF i)] = AV.tuple [AV.int i64 a, AV.int i64 ↑c]) ∧ (False → False) ∧ (False → False)) False) False) False) False) False) False) False) False) False) False) (by kernel_rfl) ?_
 conv => zeta
 try simp only [Zk]
 try simp only [Zn]
 try simp only [Zl]
 try simp only [Zo]
 try simp only [Zp]
 try simp only [Zi]
 try simp only [Int.toNat_natCast, Nat.zero_add, true_and, and_true, Nat.le_refl]
 refine ⟨hC, fun i _ _ => ⟨fun he => ?_, fun h => h, fun h => h⟩⟩
 rw [he, ha, hc]
def Z40 (X : Za) : AV := .agg (X.c (.vrows 70 X.L.length (Ze X.L) X.L.length))
theorem Uz {cs : List AV} {X : Za} (h : LV cs X) {E : Env} {r : Value} (hc : Z8 E (.agg cs) r) : Z8 E (Z40 X) r := by
 cases hc with
 | agg cs vs hc => exact .agg _ _ (Z4z h hc)
def Zbc : ZQ := fun args h K => ZI none h true 20 args fun a => match a with
 | [.agg cs, .int .i64 s] => ∃ X, LV cs X ∧ Z8P X X.L.length ∧ K (.tuple [.int .i64 (offD X.side s X.L).1, .int .i64 (offD X.side s X.L).2])
 | _ => False
theorem Z7A (args : List AV) (h : Z5) (K : AV → Prop) (hl : Zbc args h K) : Zc PP 81 args h fun o h' => ∃ v, o = .ret v ∧ h' = h ∧ K v := by
 refine Zx.psumm (d := 20) (Zq _ _ _ _ _ hl fun a ha => ?_)
 split at ha
 ·rename_i cs s
  obtain ⟨X, hX, h1, hK⟩ := ha
  have hv := Zch X s X.L.length (offD X.side s X.L).1 (offD X.side s X.L).2 (Z8P X X.L.length) (fun i => (offD X.side s (X.L.take i)).1) (fun i => (offD X.side s (X.L.take i)).2) h1 rfl (by rw [List.take_length]) (by rw [List.take_length])
  exact ⟨_, (Zx.evV (Z8Q X s _) hv).conv fun E r hr => hr.head (fun _ hc => Uz hX hc) fun _ hc => hc, fun _ => rfl, hK⟩
 ·exact ha.elim
theorem UA {side s : Int} : ∀ (L : List Z9) (p : Int × Nat), (∀ h ∈ L, 0 ≤ h.amount) → p.1 + Y4 side s L ≤ 1125899906842624 → L.foldl (UY side s) p = (p.1 + Y4 side s L, p.2 + Z0o side s L)
 | [], p, _, _ => by simp [Y4, Z0o, ZN, X4]
 | x :: r, p, hA, hp => by
  have hr := Wo (side := side) (s := s) (G := r) fun z hz => hA z (by simp [hz])
  have hx := hA x (by simp)
  rw [X7] at hp
  rw [List.foldl_cons, X7, Z2R]
  unfold Z3Y at hp ⊢
  unfold Z7r
  by_cases hf : Wm side x.own = s
  ·rw [if_pos hf] at hp ⊢
   rw [if_pos hf]
   have e : UY side s p x = (p.1 + x.amount, p.2 + 1) := by unfold UY; rw [if_pos ⟨hf, by omega⟩]
   rw [e, UA r _ (fun z hz => hA z (by simp [hz])) (by dsimp only; omega)]
   simp only [Prod.mk.injEq]; omega
  ·rw [if_neg hf] at hp ⊢
   rw [if_neg hf]
   have e : UY side s p x = p := by unfold UY; rw [if_neg (fun h => hf h.1)]
   rw [e, UA r _ (fun z hz => hA z (by simp [hz])) (by omega)]
   simp only [Prod.mk.injEq]; omega
theorem Za.Inv.offs {H : List Int → List Int} {X : Za} (h : X.Inv H) : Y4 X.side 0 X.L ≤ 1125899906842624 ∧ Y4 X.side 1 X.L ≤ 1125899906842624 := by
 have o0 := h.ov0
 have tb := ZX h.tb
 have hr := h.res
 have ha0 := h.a0
 have ha1 := h.a1
 rw [WU, if_pos rfl, show X.am 0 = X.a0 from rfl] at o0
 refine ⟨by omega, ?_⟩
 rcases h.ov1 with k | k
 ·rw [Z0p k]; omega
 ·rw [WU, if_neg (by decide), show X.am 1 = X.a1 from rfl] at k
  omega
theorem Za.Inv.offD {H : List Int → List Int} {X : Za} (h : X.Inv H) {s : Int} (hs : s = 0 ∨ s = 1) : offD X.side s X.L = (Y4 X.side s X.L, (ZN X.side s X.L).length) := by
 have ho := h.offs
 unfold Go.Tk.offD
 rw [UA X.L (0, 0) (fun z hz => (h.am.am z hz).1) (by rcases hs with rfl | rfl <;> dsimp only <;> omega)]
 simp only [Int.zero_add, Nat.zero_add]; rfl
theorem Za.Inv.od {H : List Int → List Int} {X : Za} (h : X.Inv H) : Z8P X X.L.length := ⟨rfl, h.am.n, by have := h.side; exact ⟨by omega, by omega⟩, h.am.am⟩
def Z9s : ZQ := fun args h K => ZI none h true 20 args fun a => match a with
 | [.agg cs, .int .i64 s] => ∃ X, LV cs X ∧ X.Inv Y0 ∧ (s = 0 ∨ s = 1) ∧ K (.tuple [.int .i64 (Y4 X.side s X.L), .int .i64 (ZN X.side s X.L).length])
 | _ => False
theorem Z7B (args : List AV) (h : Z5) (K : AV → Prop) (hl : Z9s args h K) : Zc PP 81 args h fun o h' => ∃ v, o = .ret v ∧ h' = h ∧ K v := by
 refine Z7A args h K (Zq _ _ _ _ _ hl fun a ha => ?_)
 split at ha
 ·obtain ⟨X, hX, hI, hs, hK⟩ := ha
  refine ⟨X, hX, hI.od, ?_⟩
  rw [hI.offD hs]; exact hK
 ·exact ha.elim
noncomputable def Z9t : Zf := G0.withP 81 Z9s
theorem Z7C : Z9t.Ok := Zf.withP_ok Zv Z7B
theorem Zbd (X : Za) (s r : Int) (hs : s = 0 ∨ s = 1) (hI : X.Inv Y0) (hr : r = Yt X s) :
  evF Z9t 20 82 [Z40 X, .int .i64 s] ⟨0, []⟩ (Yn (fun v => v = .int .i64 r)) := by
 refine @Eq.mpr _ (let q1 := X.t;
 let q2 := q1.fee;
 let q3 := [X.a0, X.a1];
 let q4 := List.length X.L;
 let q5 := 0 + Int.toNat s;
 ∃ (X_1 : Za),
 let q11 := wrap i64 (wrap i64 (List.getD q3 q5 0 - Y4 X_1.side s X_1.L) - X.res);
 LV [AV.arr u8 32 q1.fund, AV.int i64 q1.index, AV.int i64 q1.cap, AV.int i64 q1.dust, AV.int i64 q2, AV.int i64 q1.delay, AV.arr u8 32 q1.k0, AV.arr u8 32 q1.k1, AV.int i64 X.side, AV.int i64 X.res, AV.arr i64 2 q3, AV.arr i64 2 [X.i0, X.i1], AV.vrows 70 q4 (Ze X.L) q4] X_1 ∧ Za.Inv Y0 X_1 ∧ (s = 0 ∨ s = 1) ∧ Z0 (decide (0 ≤ s ∧ s < 2)) (Z0 (decide (q5 < 2)) (Z0 (s == 0) (AV.int i64 (wrap i64 (q11 - q2)) = AV.int i64 r) (AV.int i64 q11 = AV.int i64 r)) False) False) (by kernel_rfl) ?_
 conv => zeta
 try simp only [Zk]
 try simp only [Zn]
 try simp only [Zl]
 try simp only [Zo]
 try simp only [Zp]
 try simp only [Zi]
 try simp only [Int.toNat_natCast, Nat.zero_add, true_and, and_true, Nat.le_refl]
 have tb := ZX hI.tb
 have hres := hI.res
 have ha0 := hI.a0
 have ha1 := hI.a1
 have ho := hI.offs
 have n0 := Wo (side := X.side) (s := 0) fun z hz => (hI.am.am z hz).1
 have n1 := Wo (side := X.side) (s := 1) fun z hz => (hI.am.am z hz).1
 refine ⟨X, .a rfl, hI, hs, by omega, by omega, fun h => ?_, fun h => ?_⟩
 ·have h0 : s = 0 := by simpa using h
  subst h0
  rw [hr, WU, if_pos rfl]
  show AV.int .i64 (i64.wrap (i64.wrap (i64.wrap (X.a0 - _) - _) - _)) = AV.int .i64 (X.a0 - _ - _ - _)
  rw [w64 (x := X.a0 - Y4 X.side 0 X.L) (by omega), w64 (x := X.a0 - Y4 X.side 0 X.L - X.res) (by omega), w64 (by omega)]
 ·have h0 : s = 1 := by
   have : ¬ s = 0 := by simpa using h
   omega
  subst h0
  rw [hr, WU, if_neg (by decide)]
  show AV.int .i64 (i64.wrap (i64.wrap (X.a1 - _) - _)) = AV.int .i64 (X.a1 - _ - _ - 0)
  rw [w64 (x := X.a1 - Y4 X.side 1 X.L) (by omega), w64 (by omega), Int.sub_zero]
def Zbe : ZQ := fun args h K => ZI none h true 20 args fun a => match a with
 | [.agg cs, .int .i64 s] => ∃ X, LV cs X ∧ X.Inv Y0 ∧ (s = 0 ∨ s = 1) ∧ K (.int .i64 (Yt X s))
 | _ => False
theorem Z8R (args : List AV) (h : Z5) (K : AV → Prop) (hl : Zbe args h K) : Zc PP 82 args h fun o h' => ∃ v, o = .ret v ∧ h' = h ∧ K v := by
 refine Zx.psumm (d := 20) (Zq _ _ _ _ _ hl fun a ha => ?_)
 split at ha
 ·obtain ⟨X, hX, hI, hs, hK⟩ := ha
  exact ⟨_, (Zx.evV Z7C (Zbd X _ _ hs hI rfl)).conv fun E r hr => hr.head (fun _ hc => Uz hX hc) fun _ hc => hc, fun _ => rfl, hK⟩
 ·exact ha.elim
noncomputable def Z7D : Zf := (G0.withP 82 Zbe).withP 59 Za9
theorem Z2T : Z7D.Ok := Zf.withP_ok (Zf.withP_ok Zv Z8R) Z4D
def leftV (X : Za) (s : Int) : Int := if s = 0 ∨ s = 1 then max 0 (Yt X s) else 0
theorem Z0t {X : Za} {s : Int} (hs : s = 0 ∨ s = 1) : (if Yt X s > 0 then Yt X s else 0) = leftV X s := by
 unfold leftV
 rw [if_pos hs]
 split <;> omega
theorem UB {X : Za} {s : Int} (hs : ¬ (s = 0 ∨ s = 1)) : leftV X s = 0 := by unfold leftV; rw [if_neg hs]
theorem Zbf (X : Za) (s r : Int) (hI : X.Inv Y0) (hr : r = leftV X s) :
  evF Z7D 20 46 [Z40 X, .int .i64 s] ⟨0, []⟩ (Yn (fun v => v = .int .i64 r)) := by
 refine @Eq.mpr _ (let q1 := X.t;
 let q2 := List.length X.L;
 let q3 := ∃ (X_1 : Za), LV [AV.arr u8 32 q1.fund, AV.int i64 q1.index, AV.int i64 q1.cap, AV.int i64 q1.dust, AV.int i64 q1.fee, AV.int i64 q1.delay, AV.arr u8 32 q1.k0, AV.arr u8 32 q1.k1, AV.int i64 X.side, AV.int i64 X.res, AV.arr i64 2 [X.a0, X.a1], AV.arr i64 2 [X.i0, X.i1], AV.vrows 70 q2 (Ze X.L) q2] X_1 ∧ Za.Inv Y0 X_1 ∧ (s = 0 ∨ s = 1) ∧ AV.int i64 (if Yt X_1 s > 0 then Yt X_1 s else 0) = AV.int i64 r;
 Z0 (s != 0) (Z0 (s != 1) (AV.int i64 0 = AV.int i64 r) q3) q3) (by kernel_rfl) ?_
 conv => zeta
 try simp only [Zk]
 try simp only [Zn]
 try simp only [Zl]
 try simp only [Zo]
 try simp only [Zp]
 try simp only [Zi]
 try simp only [Int.toNat_natCast, Nat.zero_add, true_and, and_true, Nat.le_refl]
 subst hr
 refine ⟨fun h0 => ⟨fun h1 => ?_, fun h1 => ?_⟩, fun h0 => ?_⟩
 ·rw [UB]
  intro h
  rcases h with rfl | rfl
  ·simp at h0
  ·simp at h1
 ·have hs : s = 0 ∨ s = 1 := .inr (by simpa using h1)
  exact ⟨X, .a rfl, hI, hs, by rw [Z0t hs]⟩
 ·have hs : s = 0 ∨ s = 1 := .inl (by simpa using h0)
  exact ⟨X, .a rfl, hI, hs, by rw [Z0t hs]⟩
theorem Zbg (X : Za) (s r : Int) (hI : X.Inv Y0) (hr : r = leftV X s) :
  evF Z7D 20 24 [XN X, .int .i64 s] ⟨0, []⟩ (Yn (fun v => v = .int .i64 r)) := by
 refine @Eq.mpr _ (let q1 := AV.int i64 0 = AV.int i64 r;
 let q2 := List.length X.L;
 Z0 (X.t.cap == 0) q1 (Z0 (decide (0 ≤ s)) (Z0 (!decide (s ≤ 1)) q1 (∃ (X_1 : Za), LV (Za.c X (AV.vrows 70 q2 (Ze X.L) q2)) X_1 ∧ (0 ≤ X_1.side ∧ X_1.side ≤ 1) ∧ (s = 0 ∨ s = 1) ∧ Z2M X_1 ∧ AV.int i64 (if Yt X_1 s > 0 then Yt X_1 s else 0) = AV.int i64 r)) q1)) (by kernel_rfl) ?_
 conv => zeta
 try simp only [Zk]
 try simp only [Zn]
 try simp only [Zl]
 try simp only [Zo]
 try simp only [Zp]
 try simp only [Zi]
 try simp only [Int.toNat_natCast, Nat.zero_add, true_and, and_true, Nat.le_refl]
 subst hr
 have hsd := hI.side
 refine ⟨fun h => absurd h (by simpa using YZ hI.tb), fun _ => ⟨fun h0 => ⟨fun h1 => ?_, fun h1 => ?_⟩, fun h0 => ?_⟩⟩
 ·have : ¬ s ≤ 1 := by simpa using h1
  rw [UB (by omega)]
 ·have : s ≤ 1 := by simpa using h1
  have hs : s = 0 ∨ s = 1 := by omega
  exact ⟨X, .a rfl, by omega, hs, hI.am, by rw [Z0t hs]⟩
 ·rw [UB (by omega)]
theorem Z41 {X : Za} (hI : X.Inv Y0) (s : Int) : Zx PP 46 [Z40 X, .int .i64 s] (.int .i64 (leftV X s)) 0 [] := Zx.evV Z2T (Zbf X s _ hI rfl)
theorem Z5F {X : Za} (hI : X.Inv Y0) (s : Int) : Zx PP 24 [XN X, .int .i64 s] (.int .i64 (leftV X s)) 0 [] := Zx.evV Z2T (Zbg X s _ hI rfl)
def Z7E : ZQ := fun args h K => ZI none h true 20 args fun a => match a with
 | [.agg cs, .int .i64 s] => ∃ X, LV cs X ∧ X.Inv Y0 ∧ K (.int .i64 (leftV X s))
 | _ => False
theorem Z5G (args : List AV) (h : Z5) (K : AV → Prop) (hl : Z7E args h K) : Zc PP 46 args h fun o h' => ∃ v, o = .ret v ∧ h' = h ∧ K v := by
 refine Zx.psumm (d := 20) (Zq _ _ _ _ _ hl fun a ha => ?_)
 split at ha
 ·obtain ⟨X, hX, hI, hK⟩ := ha
  exact ⟨_, (Z41 hI _).conv fun E r hr => hr.head (fun _ hc => Uz hX hc) fun _ hc => hc, fun _ => rfl, hK⟩
 ·exact ha.elim
def Z7F : ZQ := fun args h K => ZI none h true 20 args fun a => match a with
 | [.pview cs 0, .int .i64 s] => ∃ X, LV cs X ∧ X.Inv Y0 ∧ K (.int .i64 (leftV X s))
 | _ => False
theorem Z5H (args : List AV) (h : Z5) (K : AV → Prop) (hl : Z7F args h K) : Zc PP 24 args h fun o h' => ∃ v, o = .ret v ∧ h' = h ∧ K v := by
 refine Zx.psumm (d := 20) (Zq _ _ _ _ _ hl fun a ha => ?_)
 split at ha
 ·obtain ⟨X, hX, hI, hK⟩ := ha
  exact ⟨_, (Z5F hI _).conv fun E r hr => hr.head (fun _ hc => Xu hX hc) fun _ hc => hc, fun _ => rfl, hK⟩
 ·exact ha.elim
end Go.Tk
end
section
namespace Go.Tk
open IntKind (i64 u8 u32 u64 wrap)
def Z0u : Za := ⟨⟨ZG, 0, 0, 0, 0, 0, ZG, ZG⟩, 0, 0, 0, 0, 0, 0, []⟩
def slH (b n : Nat) : AV := .nslice ⟨b, 0, 70, 0, 0⟩ 70 n n
end Go.Tk
end
section
namespace Go.Tk
open IntKind (i64 u8 u32 u64 wrap)
end Go.Tk
end
section
namespace Go.Tk
open IntKind (i64 u8 u32 u64 wrap)
end Go.Tk
end
section
namespace Go.Tk
open IntKind (i64 u8 u32 u64 wrap)
end Go.Tk
end
section
namespace Go.Tk
open IntKind (i64 u8 u32 u64 wrap)
end Go.Tk
end
section
namespace Go.Tk
open IntKind (i64 u8 u32 u64 wrap)
noncomputable def Zan : Zf := G0.withP 92 waS
theorem Z8S : Zan.Ok := Zf.withP_ok Zv Z8E
def Z8T (X : Za) (i : Nat) : St := ⟨25, [(3, .int .i64 i), (1, .ptr (some ⟨0, 0, 0, 0, 0⟩))], ⟨1, [(0, .flat (X.c (.vrows 70 X.L.length (Ze X.L) X.L.length)))]⟩, []⟩
def Zbh : St := ⟨25, [], ⟨0, []⟩, []⟩
def Z8U : St := ⟨25, [(2, .bool true)], ⟨0, []⟩, []⟩
theorem Zbi (X : Za) (n i : Nat) (Z1 Z2 Z3 : Prop) (hn : n < 1000) (hL : X.L.length = n) (hi : i ≤ n) (hst : i < n → 1 ≤ (X.L.getD i Zd).stage ∧ (X.L.getD i Zd).stage ≤ 9) (h1 : i < n → wtP (X.L.getD i Zd) = false → Z1) (h2 : i = n → Z2) (h3 : i < n → wtP (X.L.getD i Zd) = true → Z3) :
  Ym Zan 20 47 0 0 (Z8T X i) (rdM 0 0 9 (Z8T X (i + 1)) Zbh Z8U Z8U Z1 Z2 Z3 False) := by
 refine @Eq.mpr _ (let q1 := X.L;
 let q2 := List.length q1;
 let q3 := decide (0 ≤ (↑i : Int) ∧ (↑i : Int) < (↑q2 : Int));
 let q4 := List.getD q1 (Int.toNat (↑i : Int)) Zd;
 let q5 := q4.stage;
 let q6 := X.t;
 let q7 := q6.fund;
 let q8 := q6.index;
 let q9 := q6.cap;
 let q10 := q6.dust;
 let q11 := q6.fee;
 let q12 := q6.delay;
 let q13 := q6.k0;
 let q14 := q6.k1;
 let q15 := [X.a0, X.a1];
 let q16 := [X.i0, X.i1];
 let q17 := decide (q2 = q2);
 let q18 := Ze q1;
 Z0 (decide ((↑i : Int) < (↑q2 : Int))) (Z0 q3 (Z0 q3 (Z0 (decide (1 ≤ q5 ∧ q5 ≤ 9)) (Z0 (Z0h q4.own q5 == 1) Z3 (Z0 (decide (wrap i64 ((↑i : Int) + 1) = (↑(i + 1) : Int))) (q7 = q7 ∧ Z0 (decide (q8 = q8)) (Z0 (decide (q9 = q9)) (Z0 (decide (q10 = q10)) (Z0 (decide (q11 = q11)) (Z0 (decide (q12 = q12)) (q13 = q13 ∧ q14 = q14 ∧ Z0 (decide (X.side = X.side)) (Z0 (decide (X.res = X.res)) (q15 = q15 ∧ q16 = q16 ∧ Z0 q17 (q18 = q18 ∧ Z0 q17 Z1 False) False) False) False) False) False) False) False) False) False)) False) False) False) Z2) (by kernel_rfl) ?_
 conv => zeta
 try simp only [Zk]
 try simp only [Zn]
 try simp only [Zl]
 try simp only [Zo]
 try simp only [Zp]
 try simp only [Zi]
 try simp only [Int.toNat_natCast, Nat.zero_add, true_and, and_true, Nat.le_refl]
 subst hL
 refine ⟨fun hc => ?_, fun hc => h2 (by omega)⟩
 have hlt : i < X.L.length := by omega
 have hwr : i64.wrap ((i : Int) + 1) = ((i + 1 : Nat) : Int) := by rw [w64 (by omega)]; omega
 refine ⟨by omega, by omega, hst hlt, fun hm => h3 hlt ?_, fun hm => ⟨hwr, h1 hlt ?_⟩⟩
 ·unfold wtP; simpa using hm
 ·unfold wtP; simpa using hm
def Z8V (A B : List Z9) (i : Nat) : St := ⟨26, [(5, .int .i64 i), (0, .vrows 70 A.length (Ze A) A.length), (1, .vrows 70 B.length (Ze B) B.length)], ⟨0, []⟩, []⟩
def Z5I : St := ⟨26, [], ⟨0, []⟩, []⟩
theorem Zbj (A : List Z9) (n i : Nat) (Z1 Z2 : Prop) (hn : n < 1000) (hA : A.length = n) (hi : i ≤ n) (hOk : ∀ h ∈ A, h.Ok) (h1 : i < n → Z1) (h2 : i = n → Z2) :
  Ym G0 20 38 0 0 (Z8V A A i) (rdM 0 0 9 (Z8V A A (i + 1)) Z5I Z5I Z5I Z1 Z2 False False) := by
 refine @Eq.mpr _ (let q1 := List.length A;
 let q2 := decide (0 ≤ (↑i : Int) ∧ (↑i : Int) < (↑q1 : Int));
 let q3 := List.getD A (Int.toNat (↑i : Int)) Zd;
 let q4 := q3.hash;
 let q5 := q3.secret;
 let q6 := q3.own;
 let q7 := q3.id;
 let q8 := q3.amount;
 let q9 := q3.expiry;
 let q10 := q3.stage;
 let q11 := q3.fin;
 let q12 := decide (q1 = q1);
 let q13 := Ze A = Ze A;
 Z0 (decide ((↑i : Int) < (↑q1 : Int))) (Z0 q2 (Z0 q2 (Z0 (decide (List.length q4 = 32 ∧ List.length q4 = 32)) (Z0 (decide (List.length q5 = 32 ∧ List.length q5 = 32)) (Z0 (!(q6 == q6 && (q7 == q7 && (q8 == q8 && (q4 == q4 && (q9 == q9 && (q10 == q10 && (q11 == q11 && q5 == q5)))))))) False (Z0 (decide (wrap i64 ((↑i : Int) + 1) = (↑(i + 1) : Int))) (Z0 q12 (q13 ∧ Z0 q12 (Z0 q12 (q13 ∧ Z0 q12 Z1 False) False) False) False) False)) False) False) False) False) Z2) (by kernel_rfl) ?_
 conv => zeta
 try simp only [Zk]
 try simp only [Zn]
 try simp only [Zl]
 try simp only [Zo]
 try simp only [Zp]
 try simp only [Zi]
 try simp only [Int.toNat_natCast, Nat.zero_add, true_and, and_true, Nat.le_refl]
 subst hA
 refine ⟨fun hc => ?_, fun hc => h2 (by omega)⟩
 have hlt : i < A.length := by omega
 have hwr : i64.wrap ((i : Int) + 1) = ((i + 1 : Nat) : Int) := by rw [w64 (by omega)]; omega
 have hx := hOk _ (ZU hlt)
 exact ⟨by omega, by omega, ⟨hx.hash, hx.hash⟩, ⟨hx.secret, hx.secret⟩, by simp, hwr, h1 hlt⟩
noncomputable def Z9u (X : Za) (n : Nat) (C : Prop) : Zf := Zan.withL 47 0 (goM 0 (Z8T X 0) C (W6 0 n 9 (fun i => wtP (X.L.getD i Zd) = false ∧ i < n) (fun i => i = n) (fun i => i < n ∧ wtP (X.L.getD i Zd) = true) (fun _ => False) (fun _ => Zbh) (fun _ => Z8U) (fun _ => Z8U)))
theorem Z7G (X : Za) (n : Nat) : (Z9u X n (Zb9 X.L n)).Ok :=
 Zf.withGoM (N := 20) (S := fun i => Z8T X i) Z8S (by kernel_rfl) fun hC => ⟨rfl, fun i hi _ => Zbi X n i _ _ _ hC.1 hC.2.1 hi (fun h => hC.2.2 _ (ZU (by have := hC.2.1; omega))) (fun h h' => ⟨⟨h', h⟩, h⟩) (fun h => h) (fun h h' => ⟨h, h'⟩)⟩
theorem Zbk (X : Za) (n : Nat) (b : Bool) (C : Prop) (hC : C) (hn : X.L.length = n) (hb : b = Xc X.L) :
  evF (Z9u X n C) 20 47 [Z40 X] ⟨0, []⟩ (Yn fun v => v = .bool b) := by
 refine @Eq.mpr _ (let q1 := X.t;
 let q2 := q1.fund;
 let q3 := q1.index;
 let q4 := q1.cap;
 let q5 := q1.dust;
 let q6 := q1.fee;
 let q7 := q1.delay;
 let q8 := q1.k0;
 let q9 := q1.k1;
 let q10 := [X.a0, X.a1];
 let q11 := [X.i0, X.i1];
 let q12 := X.L;
 let q13 := List.length q12;
 let q14 := decide (q13 = q13);
 let q15 := Ze q12;
 q2 = q2 ∧ Z0 (decide (q3 = q3)) (Z0 (decide (q4 = q4)) (Z0 (decide (q5 = q5)) (Z0 (decide (q6 = q6)) (Z0 (decide (q7 = q7)) (q8 = q8 ∧ q9 = q9 ∧ Z0 (decide (X.side = X.side)) (Z0 (decide (X.res = X.res)) (q10 = q10 ∧ q11 = q11 ∧ Z0 q14 (q15 = q15 ∧ Z0 q14 (C ∧ ∀ (i : Nat), i ≤ n → (∀ (j : Nat), j < i → (fun (i : Nat) => wtP (List.getD q12 i Zd) = false ∧ i < n) j) → (i = n → AV.bool false = AV.bool b) ∧ (i < n ∧ wtP (List.getD q12 i Zd) = true → AV.bool true = AV.bool b) ∧ (False → False)) False) False) False) False) False) False) False) False) False) (by kernel_rfl) ?_
 conv => zeta
 try simp only [Zk]
 try simp only [Zn]
 try simp only [Zl]
 try simp only [Zo]
 try simp only [Zp]
 try simp only [Zi]
 try simp only [Int.toNat_natCast, Nat.zero_add, true_and, and_true, Nat.le_refl]
 subst hb
 refine ⟨hC, fun i hi hg => ⟨fun he => ?_, fun hx => ?_, fun h => h.elim⟩⟩
 ·have : Xc X.L = false := by
   rw [show Xc X.L = X.L.any wtP from rfl, ← Z0q, Z20 (p := wtP) fun j hj => (hg j (by omega)).1]
   exact decide_eq_false (by omega)
  rw [this]
 ·have : Xc X.L = true := List.any_eq_true.2 ⟨_, ZU (by omega), hx.2⟩
  rw [this]
def Z4L : ZQ := fun args h K => ZI none h true 20 args fun a => match a with
 | [.agg cs] => ∃ X, LV cs X ∧ X.Inv Y0 ∧ K (.bool (Xc X.L))
 | _ => False
theorem Z42 (args : List AV) (h : Z5) (K : AV → Prop) (hl : Z4L args h K) : Zc PP 47 args h fun o h' => ∃ v, o = .ret v ∧ h' = h ∧ K v := by
 refine Zx.psumm (d := 20) (Zq _ _ _ _ _ hl fun a ha => ?_)
 split at ha
 ·obtain ⟨X, hX, hI, hK⟩ := ha
  exact ⟨_, (Zx.evV (Z7G X X.L.length) (Zbk X _ _ _ ⟨hI.am.n, rfl, hI.stage⟩ rfl rfl)).conv fun E r hr => hr.head (fun _ hc => Uz hX hc) fun _ hc => hc, fun _ => rfl, hK⟩
 ·exact ha.elim
noncomputable def Z9v (A : List Z9) (n : Nat) (C : Prop) : Zf := G0.withL 38 0 (goM 0 (Z8V A A 0) C (W6 0 n 9 (fun i => i < n) (fun i => i = n) (fun _ => False) (fun _ => False) (fun _ => Z5I) (fun _ => Z5I) (fun _ => Z5I)))
theorem Z7H (A : List Z9) (n : Nat) : (Z9v A n (n < 1000 ∧ A.length = n ∧ ∀ h ∈ A, h.Ok)).Ok :=
 Zf.withGoM (N := 20) (S := fun i => Z8V A A i) Zv (by kernel_rfl) fun hC => ⟨rfl, fun i hi _ => Zbj A n i _ _ hC.1 hC.2.1 hi hC.2.2 (fun h => ⟨h, h⟩) (fun h => h)⟩
theorem Zbl (A : List Z9) (n : Nat) (C : Prop) (hC : C) :
  evF (Z9v A n C) 20 38 [.vrows 70 A.length (Ze A) A.length, .vrows 70 A.length (Ze A) A.length] ⟨0, []⟩ (Yn fun v => v = .bool true) := by
 refine @Eq.mpr _ (let q1 := List.length A;
 let q2 := (↑q1 : Int);
 let q3 := AV.bool true;
 let q4 := decide (q1 = q1);
 let q5 := Ze A = Ze A;
 Z0 (q2 != q2) (AV.bool false = q3) (Z0 q4 (q5 ∧ Z0 q4 (Z0 q4 (q5 ∧ Z0 q4 (C ∧ ∀ (i : Nat), i ≤ n → (∀ (j : Nat), j < i → (fun (i : Nat) => i < n) j) → (i = n → q3 = q3) ∧ (False → False) ∧ (False → False)) False) False) False) False)) (by kernel_rfl) ?_
 conv => zeta
 try simp only [Zk]
 try simp only [Zn]
 try simp only [Zl]
 try simp only [Zo]
 try simp only [Zp]
 try simp only [Zi]
 try simp only [Int.toNat_natCast, Nat.zero_add, true_and, and_true, Nat.le_refl]
 exact ⟨fun h => by simp at h, fun _ => ⟨hC, fun i _ _ => ⟨fun _ => trivial, fun h => h, fun h => h⟩⟩⟩
theorem Zbm (u : Unit)  :
  evF G0 20 38 [.nilslice, .nilslice] ⟨0, []⟩ (Yn fun v => v = .bool true) := by
 refine @Eq.mpr _ (AV.bool true = AV.bool true) (by kernel_rfl) ?_
 trivial
def Z4M : ZQ := fun args h K => ZI none h true 20 args fun a => match a with
 | [.vrows 70 n f n', .vrows 70 m g m'] => ∃ A, (n = A.length ∧ n' = n ∧ m = n ∧ m' = n) ∧ (f = Ze A ∧ g = Ze A) ∧ n < 1000 ∧ (∀ h ∈ A, h.Ok) ∧ K (.bool true)
 | [.nilslice, .nilslice] => K (.bool true)
 | _ => False
theorem Z43 (args : List AV) (h : Z5) (K : AV → Prop) (hl : Z4M args h K) : Zc PP 38 args h fun o h' => ∃ v, o = .ret v ∧ h' = h ∧ K v := by
 refine Zx.psumm (d := 20) (Zq _ _ _ _ _ hl fun a ha => ?_)
 split at ha
 ·obtain ⟨A, ⟨rfl, rfl, rfl, rfl⟩, ⟨rfl, rfl⟩, h1, h2, hK⟩ := ha
  exact ⟨_, Zx.evV (Z7H A _) (Zbl A _ _ ⟨h1, rfl, h2⟩), fun _ => rfl, hK⟩
 ·exact ⟨_, Zx.evV Zv (Zbm ()), fun _ => rfl, ha⟩
 ·exact ha.elim
end Go.Tk
end
