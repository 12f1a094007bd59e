/- K: part 5 of an engine (a symbolic evaluator, proved against the model) and of the walk by it. -/
import Derived.Test.YtellkjlbhaikeaaGreatK4
set_option linter.unusedVariables false
set_option linter.unusedSimpArgs false
set_option maxRecDepth 100000
set_option maxHeartbeats 0
section
namespace Go.Tk
open IntKind (i64 u8 u32 u64 wrap)
def Z9d : Go.Shelf.Ren := ⟨fun | 6 => 60 | 15 => 107 | 14 => 106 | 28 => 138 | 29 => 139 | 20 => 130 | 21 => 131 | 22 => 132 | 23 => 133 | 24 => 134 | 25 => 135 | 26 => 136 | 27 => 137 | 46 => 157 | 47 => 158 | 48 => 159 | 49 => 160 | 50 => 161 | 57 => 167 | n => n, fun | 22 => 55 | 24 => 99 | 25 => 117 | 3 => 3 | 39 => 163 | 0 => 0 | 53 => 179 | 55 => 203 | 4 => 4 | 46 => 195 | 45 => 194 | 50 => 199 | 5 => 5 | 9 => 9 | 66 => 218 | 70 => 222 | 76 => 231 | 77 => 232 | n => n, fun | n => n⟩
theorem Zgb : Go.Proofs.SlLaysF0.n6 PP Z9d := {
 mixed := by kernel_rfl,
 f6 := ⟨Go.Proofs.Tryz.f60.name, by decide, Go.Proofs.Tryz.func60.trans (congrArg some (by kernel_rfl))⟩,
 f14 := ⟨Go.Proofs.Tryz.f106.name, by decide, Go.Proofs.Tryz.func106.trans (congrArg some (by kernel_rfl))⟩,
 f15 := Go.Proofs.Tryz.func107.trans (congrArg some (by kernel_rfl)),
 f20 := ⟨Go.Proofs.Tryz.f130.name, by decide, Go.Proofs.Tryz.func130.trans (congrArg some (by kernel_rfl))⟩,
 f21 := ⟨Go.Proofs.Tryz.f131.name, by decide, Go.Proofs.Tryz.func131.trans (congrArg some (by kernel_rfl))⟩,
 f22 := ⟨Go.Proofs.Tryz.f132.name, by decide, Go.Proofs.Tryz.func132.trans (congrArg some (by kernel_rfl))⟩,
 f23 := ⟨Go.Proofs.Tryz.f133.name, by decide, Go.Proofs.Tryz.func133.trans (congrArg some (by kernel_rfl))⟩,
 f24 := ⟨Go.Proofs.Tryz.f134.name, by decide, Go.Proofs.Tryz.func134.trans (congrArg some (by kernel_rfl))⟩,
 f25 := ⟨Go.Proofs.Tryz.f135.name, by decide, Go.Proofs.Tryz.func135.trans (congrArg some (by kernel_rfl))⟩,
 f26 := ⟨Go.Proofs.Tryz.f136.name, by decide, Go.Proofs.Tryz.func136.trans (congrArg some (by kernel_rfl))⟩,
 f27 := ⟨Go.Proofs.Tryz.f137.name, by decide, Go.Proofs.Tryz.func137.trans (congrArg some (by kernel_rfl))⟩,
 f28 := Go.Proofs.Tryz.func138.trans (congrArg some (by kernel_rfl)),
 f29 := Go.Proofs.Tryz.func139.trans (congrArg some (by kernel_rfl)),
 f46 := ⟨Go.Proofs.Tryz.f157.name, by decide, Go.Proofs.Tryz.func157.trans (congrArg some (by kernel_rfl))⟩,
 f47 := Go.Proofs.Tryz.func158.trans (congrArg some (by kernel_rfl)),
 f48 := Go.Proofs.Tryz.func159.trans (congrArg some (by kernel_rfl)),
 f49 := ⟨Go.Proofs.Tryz.f160.name, by decide, Go.Proofs.Tryz.func160.trans (congrArg some (by kernel_rfl))⟩,
 f50 := ⟨Go.Proofs.Tryz.f161.name, by decide, Go.Proofs.Tryz.func161.trans (congrArg some (by kernel_rfl))⟩,
 f57 := ⟨Go.Proofs.Tryz.f167.name, by decide, Go.Proofs.Tryz.func167.trans (congrArg some (by kernel_rfl))⟩,
 t0 := Go.Proofs.Tryz.underlying0,
 a0 := Go.Proofs.Tryz.isAgg0,
 z0 := Go.Proofs.Tryz.sizeOf0,
 v0 := Go.Proofs.Tryz.zeroValue0,
 t3 := Go.Proofs.Tryz.underlying3,
 a3 := Go.Proofs.Tryz.isAgg3,
 z3 := Go.Proofs.Tryz.sizeOf3,
 v3 := Go.Proofs.Tryz.zeroValue3,
 t4 := Go.Proofs.Tryz.underlying4,
 a4 := Go.Proofs.Tryz.isAgg4,
 z4 := Go.Proofs.Tryz.sizeOf4,
 v4 := Go.Proofs.Tryz.zeroValue4,
 t5 := Go.Proofs.Tryz.underlying5,
 a5 := Go.Proofs.Tryz.isAgg5,
 z5 := Go.Proofs.Tryz.sizeOf5,
 v5 := Go.Proofs.Tryz.zeroValue5,
 t9 := Go.Proofs.Tryz.underlying9,
 a9 := Go.Proofs.Tryz.isAgg9,
 z9 := Go.Proofs.Tryz.sizeOf9,
 v9 := Go.Proofs.Tryz.zeroValue9,
 t22 := Go.Proofs.Tryz.underlying55,
 a22 := Go.Proofs.Tryz.isAgg55,
 z22 := Go.Proofs.Tryz.sizeOf55,
 v22 := Go.Proofs.Tryz.zeroValue55,
 t25 := Go.Proofs.Tryz.underlying117,
 a25 := Go.Proofs.Tryz.isAgg117,
 z25 := Go.Proofs.Tryz.sizeOf117,
 v25 := Go.Proofs.Tryz.zeroValue117,
 t39 := Go.Proofs.Tryz.underlying163,
 a39 := Go.Proofs.Tryz.isAgg163,
 z39 := Go.Proofs.Tryz.sizeOf163,
 v39 := Go.Proofs.Tryz.zeroValue163,
 t45 := Go.Proofs.Tryz.underlying194,
 a45 := Go.Proofs.Tryz.isAgg194,
 z45 := Go.Proofs.Tryz.sizeOf194,
 v45 := Go.Proofs.Tryz.zeroValue194,
 t46 := Go.Proofs.Tryz.underlying195,
 a46 := Go.Proofs.Tryz.isAgg195,
 z46 := Go.Proofs.Tryz.sizeOf195,
 v46 := Go.Proofs.Tryz.zeroValue195,
 t50 := Go.Proofs.Tryz.underlying199,
 a50 := Go.Proofs.Tryz.isAgg199,
 z50 := Go.Proofs.Tryz.sizeOf199,
 v50 := Go.Proofs.Tryz.zeroValue199,
 t53 := Go.Proofs.Tryz.underlying179,
 a53 := Go.Proofs.Tryz.isAgg179,
 z53 := Go.Proofs.Tryz.sizeOf179,
 v53 := Go.Proofs.Tryz.zeroValue179,
 t55 := Go.Proofs.Tryz.underlying203,
 a55 := Go.Proofs.Tryz.isAgg203,
 z55 := Go.Proofs.Tryz.sizeOf203,
 v55 := Go.Proofs.Tryz.zeroValue203,
 t66 := Go.Proofs.Tryz.underlying218,
 a66 := Go.Proofs.Tryz.isAgg218,
 z66 := Go.Proofs.Tryz.sizeOf218,
 v66 := Go.Proofs.Tryz.zeroValue218,
 t70 := Go.Proofs.Tryz.underlying222,
 a70 := Go.Proofs.Tryz.isAgg222,
 z70 := Go.Proofs.Tryz.sizeOf222,
 v70 := Go.Proofs.Tryz.zeroValue222,
 t76 := Go.Proofs.Tryz.underlying231,
 a76 := Go.Proofs.Tryz.isAgg231,
 z76 := Go.Proofs.Tryz.sizeOf231,
 v76 := Go.Proofs.Tryz.zeroValue231,
 t77 := Go.Proofs.Tryz.underlying232,
 a77 := Go.Proofs.Tryz.isAgg232,
 z77 := Go.Proofs.Tryz.sizeOf232,
 v77 := Go.Proofs.Tryz.zeroValue232 }
end Go.Tk
end
section
namespace Go.Tk
open IntKind (i64 u8 u32 u64 wrap)
def Z70 {α : Type} (lt : α → α → Bool) (l : List α) : Prop := l.Pairwise fun a b => lt b a = false
theorem Z0s {α : Type} {lt : α → α → Bool} : ∀ {l m : List α}, l.Perm m → Z70 lt l → Z70 lt m → (∀ a ∈ l, ∀ b ∈ l, lt a b = false → lt b a = false → a = b) → l = m
 | [], m, hp, _, _, _ => by simpa using hp.symm
 | x :: r, [], hp, _, _, _ => by simp at hp
 | x :: r, y :: q, hp, hl, hm, hu => by
  unfold Z70 at hl hm
  rw [List.pairwise_cons] at hl hm
  have hyx : y = x := by
   by_cases e : y = x
   ·exact e
   ·have hx : x ∈ q := by
     have := hp.subset (List.mem_cons_self ..)
     rcases List.mem_cons.1 this with h | h
     ·exact absurd h.symm e
     ·exact h
    have hy : y ∈ r := by
     have := hp.symm.subset (List.mem_cons_self ..)
     rcases List.mem_cons.1 this with h | h
     ·exact absurd h e
     ·exact h
    exact hu y (List.mem_cons_of_mem _ hy) x (List.mem_cons_self ..) (hl.1 y hy) (hm.1 x hx)
  subst hyx
  rw [List.perm_cons] at hp
  rw [Z0s hp hl.2 hm.2 fun a ha b hb => hu a (List.mem_cons_of_mem _ ha) b (List.mem_cons_of_mem _ hb)]
end Go.Tk
end
section
namespace Go.Tk
open IntKind (i64 u8 u32 u64 wrap)
def Wu (h : Z6) : Int := match h.own with
 | true => 0
 | false => 1
def Z5z (a b : Int) : Int := if a < b then -1 else if b < a then 1 else 0
def cfH (a b : Z6) : Int := if Z5z (Wu a) (Wu b) ≠ 0 then Z5z (Wu a) (Wu b) else Z5z a.id b.id
theorem Z9e (b : Bool) (x : Prop) : Z0 b x x = x := by cases b <;> rfl
theorem ZhN (p q : Z6) (r : Int) (hr : r = cfH p q) :
  evF G0 20 61 [.agg p.c, .agg q.c] ⟨0, []⟩ (Yp (fun v => v = .int .i64 r)) := by
 refine @Eq.mpr _ (let q1 := p.id;
 let q2 := q1 != q1;
 let q3 := q.id;
 let q4 := q3 != q3;
 let q5 := AV.int i64 r;
 let q6 := AV.int i64 0 = q5;
 let q7 := AV.int i64 (-1) = q5;
 let q8 := AV.int i64 1 = q5;
 let q9 := decide (q1 < q3);
 let q10 := decide (q1 > q3);
 let q11 := Z0 q2 (Z0 q4 q6 q7) (Z0 q4 q8 (Z0 q9 q7 (Z0 q10 q8 q6)));
 Z0 p.own (Z0 q.own q11 (Z0 q2 (Z0 q4 q7 q7) (Z0 q4 q7 (Z0 q9 q7 (Z0 q10 q7 q7))))) (Z0 q.own (Z0 q2 (Z0 q4 q8 q8) (Z0 q4 q8 (Z0 q9 q8 (Z0 q10 q8 q8)))) q11)) (by kernel_rfl) ?_
 conv => zeta
 subst hr
 simp only [bne_self_eq_false, ZaI, Z9e]
 unfold cfH Wu Z5z
 simp only [ZaJ]
 congr 1
 cases p.own <;> cases q.own <;> by_cases h1 : p.id < q.id <;> by_cases h2 : q.id < p.id <;> simp [h1, h2]
def ltH (a b : Z6) : Bool := Go.Proofs.ltOf cfH a b
theorem Z14 (a b : Z6) : ltH a b = true ↔ Wu a < Wu b ∨ (Wu a = Wu b ∧ a.id < b.id) := by
 unfold ltH Go.Proofs.ltOf cfH Z5z
 rw [decide_eq_true_iff]
 split <;> split <;> (try split) <;> (try split) <;> omega
theorem Z09 (a b : Z6) : ltH a b = false ↔ ¬ (Wu a < Wu b ∨ (Wu a = Wu b ∧ a.id < b.id)) := by
 rw [← Z14, Bool.not_eq_true]
theorem ZcP : Go.Sort.SWO (Go.Proofs.ltOf cfH) where
 irrefl x := by rw [show Go.Proofs.ltOf cfH x x = ltH x x from rfl, Z09]; omega
 trans x y z h1 h2 := by
  rw [show Go.Proofs.ltOf cfH x z = ltH x z from rfl, Z14]
  have a := (Z14 x y).1 h1
  have b := (Z14 y z).1 h2
  omega
 ntrans x y z h1 h2 := by
  rw [show Go.Proofs.ltOf cfH x z = ltH x z from rfl, Z09]
  have a := (Z09 x y).1 h1
  have b := (Z09 y z).1 h2
  omega
def ZcQ (h : Z6) : List Value := .bool h.own :: .int .i64 h.id :: .int .i64 h.amount :: (intCells .u8 32 h.hash ++ (.int .i64 h.expiry :: .int .i64 h.stage :: .int .i64 h.fin :: (intCells .u8 32 h.secret ++ [])))
theorem Z2p (E : Env) (h : Z6) : Zr E h.c (ZcQ h) :=
 .one _ _ _ _ rfl rfl (.bool _) (.one _ _ _ _ rfl rfl (.int _ _) (.one _ _ _ _ rfl rfl (.int _ _) (.arr _ _ _ _ _ (.one _ _ _ _ rfl rfl (.int _ _) (.one _ _ _ _ rfl rfl (.int _ _) (.one _ _ _ _ rfl rfl (.int _ _) (.arr _ _ _ _ _ .nil)))))))
theorem ZcR (E : Env) (h : Z6) (vs : List Value) (hc : Zr E h.c vs) : vs = ZcQ h := by
 unfold Z6.c at hc
 obtain ⟨c1, w0, rfl, _, _, h1, k0⟩ := hc.cons_cell (by intros; simp)
 obtain ⟨c2, w1, rfl, _, _, h2, k1⟩ := k0.cons_cell (by intros; simp)
 obtain ⟨c3, w2, rfl, _, _, h3, k2⟩ := k1.cons_cell (by intros; simp)
 obtain ⟨w3, rfl, k3⟩ := k2.cons_arr
 obtain ⟨c4, w4, rfl, _, _, h4, k4⟩ := k3.cons_cell (by intros; simp)
 obtain ⟨c5, w5, rfl, _, _, h5, k5⟩ := k4.cons_cell (by intros; simp)
 obtain ⟨c6, w6, rfl, _, _, h6, k6⟩ := k5.cons_cell (by intros; simp)
 obtain ⟨w7, rfl, k7⟩ := k6.cons_arr
 cases k7
 cases h1; cases h2; cases h3; cases h4; cases h5; cases h6
 rfl
instance : Inhabited Z6 := ⟨Zc⟩
theorem Zgc : ∃ (E : Env), True := ⟨⟨fun _ => none, fun _ _ => False⟩, trivial⟩
theorem Zb0 (h : Z6) : (ZcQ h).length = 70 := by
 obtain ⟨E, _⟩ := Zgc
 have := (Z2p E h).length
 simpa [Z6.c, csz] using this
theorem Zb1 (h : Z6) : ∀ v ∈ ZcQ h, v.oneCell' = true := by
 obtain ⟨E, _⟩ := Zgc
 exact (Z2p E h).all_one
structure Xq (L L' : List Z6) (n : Nat) : Prop where
 hn : L.length = n
 pos : 0 < n
 lt : n < 1000
 perm : L'.Perm L
 ord : Z70 ltH L'
 uniq : ∀ a ∈ L', ∀ b ∈ L', ltH a b = false → ltH b a = false → a = b
theorem Zb2 {L L' : List Z6} {n lo : Nat} {f : Nat → List AV} (hf : ∀ i, i < n → f i = Z5 L i) (h : Xq L L' n) : Spec PP 60 [.nslice ⟨0, 0, 70, 0, 0⟩ 70 n lo, .func (.func 61) [] []] ⟨1, [(0, .rows 70 n f)]⟩ (.ret (.tuple [])) 1 [(0, .rows 70 n (Z5 L'))] :=
 Z9c (L := Zgb) (k := 70) Go.Proofs.Tryz.isAgg99 Go.Proofs.Tryz.sizeOf99 (c := Z6.c) Zb0 (by decide) Zb1 ZcR Z2p ZcP (g := 61)
  (fun _ _ => Go.Proofs.enters_of Go.Proofs.Tryz.func61 (by kernel_rfl) rfl _ _) (fun x y => ZH.evV Zw (ZhN x y _ rfl)) h.hn h.pos (by have := h.lt; omega) hf (fun _ _ => rfl)
  (fun l' hp ho => (Z0s (lt := ltH) (h.perm.trans hp.symm) h.ord ho h.uniq).symm)
def Z71 : YR := fun args h K => match args with
 | [.nslice ⟨b, 0, 70, 0, 0⟩ 70 _ _, _] => frA [b] h 20 args fun Bs a => match Bs, a with
  | [.rows 70 n f], [.nslice ⟨0, 0, 70, 0, 0⟩ 70 n' _, .func (.func 61) [] []] => ∃ L L', n' = n ∧ (∀ i, i < n → f i = Z5 L i) ∧ Xq L L' n ∧ K (.ret (.tuple [])) ⟨h.next, (b, .rows 70 n (Z5 L')) :: YP h.bs b⟩
  | _, _ => False
 | _ => False
theorem Z9f (args : List AV) (h : Z9) (K : KO) (hl : Z71 args h K) : Zo PP 60 args h K := by
 unfold Z71 at hl
 split at hl
 ·refine Spec.fsumm hl fun Bs a hlen hK0 => ?_
  split at hK0
  ·obtain ⟨L, L', rfl, hf, hs, hK⟩ := hK0
   exact ⟨_, _, _, _, _, Zb2 hf hs, Nat.le_refl _, .ret _ _ rfl, .cons _ _ _ _ _ _ rfl (.rows _ _ _ (fun i _ => X9 _ i)) .nil, hK⟩
  ·exact hK0.elim
 ·exact hl.elim
end Go.Tk
end
section
namespace Go.Tk
open IntKind (i64 u8 u32 u64 wrap)
theorem Zgd (N : Nat) (L : List Z6) (hN : N + 1 < 1000000) :
  evF G0 20 44 [.vrows 70 (N + 1) (Z5 L) (N + 1)] ⟨0, []⟩ (YQ 0 (.ret (.nslice ⟨0, 0, 70, 0, 0⟩ 70 (N + 1) (N + 1))) 1 [(0, .rows 70 (N + 1) (Z5 L))]) := by
 refine @Eq.mpr _ (let q1 := N + 1;
 let q2 := 0 + q1;
 let q3 := decide (q2 = q1);
 Z0 (decide (q2 * 112 ≤ 140737488355328)) (Z0 q3 (Z0 (decide (q1 ≤ q2)) (Z0 q3 (Z8 0 [(0, 0)] q1 (Z5 L) (ZV 0 (fun (x : Nat) => []) (Z5 L)) ∧ True) False) False) False) False) (by kernel_rfl) ?_
 conv => zeta
 try simp only [Zi]
 try simp only [Zj]
 try simp only [Zk]
 try simp only [Zl]
 try simp only [Zm]
 try simp only [Zh]
 try simp only [Int.toNat_natCast, Nat.zero_add, true_and, and_true, Nat.le_refl]
 repeat' apply And.intro
 all_goals first | omega | exact Zn fun i hi => by rw [Z0Y (Nat.zero_le _)]; rfl
theorem Zge (L : List Z6)  :
  evF G0 20 44 [.nilslice] ⟨0, []⟩ (YQ 0 (.ret (.nslice ⟨0, 0, 70, 0, 0⟩ 70 0 0)) 1 [(0, .rows 70 0 (Z5 L))]) := by
 refine @Eq.mpr _ (True) (by kernel_rfl) ?_
 trivial
theorem Zgf (L : List Z6)  :
  evF G0 20 44 [.fslice] ⟨0, []⟩ (YQ 0 (.ret (.nslice ⟨0, 0, 70, 0, 0⟩ 70 0 0)) 1 [(0, .rows 70 0 (Z5 L))]) := by
 refine @Eq.mpr _ (Z8 0 [(0, 0)] 0 (Z5 L) (ZV 0 (fun (x : Nat) => []) fun (x : Nat) => []) ∧ True) (by kernel_rfl) ?_
 try simp only [Zi]
 try simp only [Zj]
 try simp only [Zk]
 try simp only [Zl]
 try simp only [Zm]
 try simp only [Zh]
 try simp only [Int.toNat_natCast, Nat.zero_add, true_and, and_true, Nat.le_refl]
 first | exact Zn fun i hi => by omega | exact ⟨Zn fun i hi => by omega, trivial⟩
theorem Zb3 (N : Nat) (L : List Z6) (hN : N < 1000000) : ZH PP 44 [.vrows 70 N (Z5 L) N] (.nslice ⟨0, 0, 70, 0, 0⟩ 70 N N) 1 [(0, .rows 70 N (Z5 L))] := by
 cases N with
 | zero => exact ZH.vrows0 (.evM Zw (Zge L)) (.evM Zw (Zgf L))
 | succ n => exact .evM Zw (Zgd n L hN)
def ZcS : YR := fun args h K => ZY none h true 20 args fun a => match a with
 | [.vrows 70 n f m] => ∃ L, m = n ∧ f = Z5 L ∧ n < 1000000 ∧ K (.ret (.nslice ⟨h.next, 0, 70, 0, 0⟩ 70 n n)) ⟨h.next + 1, (h.next, .rows 70 n (Z5 L)) :: h.bs⟩
 | _ => False
theorem Z4v (args : List AV) (h : Z9) (K : KO) (hl : ZcS args h K) : Zo PP 44 args h K := by
 refine ZH.fsumm (d := 20) (Zx _ _ _ _ _ hl fun a ha => ?_)
 split at ha
 ·obtain ⟨L, rfl, rfl, hN, hK⟩ := ha
  exact ⟨_, _, _, _, Zb3 _ L hN, rfl, ⟨Nat.one_pos, .rows _ _ _ (fun i _ => X9 _ i), trivial⟩, hK⟩
 ·exact ha.elim
end Go.Tk
end
section
namespace Go.Tk
open IntKind (i64 u8 u32 u64 wrap)
noncomputable def Zb4 : Zg := ((((G0.withP 56 Z4s).withP 59 Zf9).withF 58 Z2n).withF 44 ZcS).withF 60 Z71
theorem Z15 : Zb4.Ok := Zg.withF_ok (Zg.withF_ok (Zg.withF_ok (Zg.withP_ok (Zg.withP_ok Zw Z3w) Z7W) Um) Z4v) Z9f
def Z4w (X : Za) (n : Nat) : Z9 := ⟨2, [(0, .flat (X.c (.nslice ⟨1, 0, 70, 0, 0⟩ 70 n n))), (1, .rows 70 n (Z5 X.L))]⟩
theorem Ze4 (L : List Z6) (h : Z6) (n : Nat) (hn : L.length = n) : (∀ i, i < n + 1 → Yi (ZV n (Z5 L) (YD h.c 0 70) i) = true) ∧ ∀ i, i < n + 1 → ZV n (Z5 L) (YD h.c 0 70) i = Z5 (L ++ [h]) i := by
 have h2 : ∀ i, i < n + 1 → ZV n (Z5 L) (YD h.c 0 70) i = Z5 (L ++ [h]) i := fun i hi => Ym hn (fun _ _ => rfl) hi
 exact ⟨fun i hi => by rw [h2 i hi]; exact X9 _ _, h2⟩
structure Z5A (X : Za) : Prop where
 cap : X.t.cap ≠ 0
 side : X.side = 0 ∨ X.side = 1
 am : Z0L X
 nx : (0 ≤ X.i0 ∧ X.i0 ≤ 2147483648) ∧ 0 ≤ X.i1 ∧ X.i1 ≤ 2147483648
theorem Z72 (X : Za) (n : Nat) (id am ex e : Int) (hash : List Int) (hn : X.L.length = n) (hX : Z5A X) (he : e = Xi X true id am hash ex) (hne : e ≠ 0) :
  evF Zb4 20 18 [.ptr (some ⟨0, 0, 0, 0, 0⟩), .bool true, .int .i64 id, .int .i64 am, .agg [.arr .u8 32 hash], .int .i64 ex] (Z4w X n) (YQ 2 (.ret (.int .i64 e)) 2 [(0, .flat (X.c (.nslice ⟨1, 0, 70, 0, 0⟩ 70 n n))), (1, .rows 70 n (Z5 X.L))]) := by
 refine @Eq.mpr _ (let q1 := X.t;
 let q2 := q1.cap;
 let q3 := q1.fund;
 let q4 := q3 = q3;
 let q5 := q1.index;
 let q6 := decide (q5 = q5);
 let q7 := decide (q2 = q2);
 let q8 := q1.dust;
 let q9 := decide (q8 = q8);
 let q10 := q1.fee;
 let q11 := decide (q10 = q10);
 let q12 := q1.delay;
 let q13 := decide (q12 = q12);
 let q14 := q1.k0;
 let q15 := q14 = q14;
 let q16 := q1.k1;
 let q17 := q16 = q16;
 let q18 := X.side;
 let q19 := decide (q18 = q18);
 let q20 := X.res;
 let q21 := decide (q20 = q20);
 let q22 := [X.a0, X.a1];
 let q23 := q22 = q22;
 let q24 := X.i0;
 let q25 := [X.i1];
 let q26 := q24 :: q25;
 let q27 := decide (n = n);
 let q28 := Z5 X.L;
 let q29 := q4 ∧ Z0 q6 (Z0 q7 (Z0 q9 (Z0 q11 (Z0 q13 (q15 ∧ q17 ∧ Z0 q19 (Z0 q21 (q23 ∧ q26 = q26 ∧ Z0 q27 (Z0 (decide (n ≤ n)) (Z0 q27 (Z8 2 [] n q28 q28 ∧ True) False) False) False) False) False) False) False) False) False) False;
 let q30 := decide (0 + n ≤ n);
 let q31 := ZT 0 q28;
 let q32 := n + 1;
 let q33 := YD [AV.bool true, AV.int i64 id, AV.int i64 am, AV.arr u8 32 hash, AV.int i64 ex, AV.int i64 1, AV.int i64 0, AV.arr u8 32 Zd] 0 70;
 Z0 (q2 == 0) (Z0 (decide (1 = e)) q29 False)
 (Z0 q30
 ((∀ (i : Nat), i < n → true = true) ∧
 ∃ (X : Za),
 let q67 := [AV.arr u8 32 q3, AV.int i64 q5, AV.int i64 q2, AV.int i64 q8, AV.int i64 q10, AV.int i64 q12, AV.arr u8 32 q14, AV.arr u8 32 q16, AV.int i64 q18, AV.int i64 q20, AV.arr i64 2 q22, AV.arr i64 2 q26, AV.vrows 70 n q31 n];
 let q68 := X.side;
 LV q67 X ∧
 (0 ≤ q68 ∧ q68 ≤ 1) ∧
 List.length X.L < 1000 ∧
 Z0 (decide (q24 = q24))
 (Z0 q30
 ((∀ (i : Nat), i < n → true = true) ∧
 ∃ (X_1 : Za),
 LV q67 X_1 ∧
 (0 ≤ X_1.side ∧ X_1.side ≤ 1) ∧
 (q18 = 0 ∨ q18 = 1) ∧
 Z0L X_1 ∧
 Z0 (!Yj (Z6.mk true id am hash ex 1 0 Zd)) (Z0 (decide (2 = e)) q29 False)
 (Z0 (id != q24) (Z0 (decide (200 = e)) q29 False)
 (Z0 (decide ((↑(List.length (ZO q68 q18 X.L)) : Int) ≥ 8)) (Z0 (decide (201 = e)) q29 False)
 (Z0 (decide (Ya X_1 q18 < am)) (Z0 (decide (202 = e)) q29 False)
 (Z0 q30 ((∀ (i : Nat), i < n → true = true) ∧ ∃ (L : List Z6), n = n ∧ q31 = Z5 L ∧ n < 1000000 ∧ Z0 (decide (id = id)) (Z0 (decide (am = am)) (hash = hash ∧ Z0 (decide (ex = ex)) (Zd = Zd ∧ Z0 q27 (Z0 (decide (q32 * 112 ≤ 140737488355328)) ((∀ (i : Nat), i < q32 → Yi (ZV n (Z5 L) q33 i) = true) ∧ ∃ (L_1 : List Z6), ∃ (L' : List Z6), q32 = q32 ∧ (∀ (i : Nat), i < q32 → ZV n (Z5 L) q33 i = Z5 L_1 i) ∧ Xq L_1 L' q32 ∧ Z0 (decide (0 = e)) (q4 ∧ Z0 q6 (Z0 q7 (Z0 q9 (Z0 q11 (Z0 q13 (q15 ∧ q17 ∧ Z0 q19 (Z0 q21 (q23 ∧ wrap i64 (q24 + 1) :: q25 = q26 ∧ False) False) False) False) False) False) False) False) False) False) False) False) False) False) False ∧
 Z0 q27 (Z0 q27 (Z0 q30 ((∀ (i : Nat), i < n → true = true) ∧ ∃ (L : List Z6), n = n ∧ q31 = Z5 L ∧ n < 1000000 ∧ Z0 q27 (Z0 (decide (q32 * 112 ≤ 140737488355328)) ((∀ (i : Nat), i < q32 → Yi (ZV n (Z5 L) q33 i) = true) ∧ ∃ (L_1 : List Z6), ∃ (L' : List Z6), q32 = q32 ∧ (∀ (i : Nat), i < q32 → ZV n (Z5 L) q33 i = Z5 L_1 i) ∧ Xq L_1 L' q32 ∧ Z0 (decide (0 = e)) (q4 ∧ Z0 q6 (Z0 q7 (Z0 q9 (Z0 q11 (Z0 q13 (q15 ∧ q17 ∧ Z0 q19 (Z0 q21 (q23 ∧ wrap i64 (q24 + 1) :: q25 = q26 ∧ False) False) False) False) False) False) False) False) False) False) False) False) False) False)))))
 False)
 False)
 False)) (by kernel_rfl) ?_
 conv => zeta
 subst hn
 have hlen := hX.am.n
 have hs01 : 0 ≤ X.side ∧ X.side ≤ 1 := by have := hX.side; omega
 have hwf : i64.wrap (1 - X.side) = 1 - X.side := w64 (by omega)
 try rw [hwf]
 have hsf : X.side = 0 ∨ X.side = 1 := by have := hX.side; omega
 have hp : Yj ⟨true, id, am, hash, ex, 1, 0, Zd⟩ = Yj (YV X true id am hash ex) := rfl
 rw [hp]
 try simp only [Zi]
 try simp only [Zj]
 try simp only [Zk]
 try simp only [Zl]
 try simp only [Zm]
 try simp only [Zh]
 try simp only [Int.toNat_natCast, Nat.zero_add, true_and, and_true, Nat.le_refl]
 unfold Xi at he
 have hf : ZN X.side true = X.side := rfl
 have hnx : X.nx true = X.i0 := rfl
 rw [hf, hnx] at he
 have hR : Z8 2 [] X.L.length (Z5 X.L) (Z5 X.L) := Zn fun _ _ => rfl
 refine ⟨fun hc => absurd hc (by simp [hX.cap]), fun _ => ⟨fun _ _ => trivial, X, .a rfl, hs01, hlen, fun _ _ => trivial, X, .a rfl, hs01, hsf, hX.am, fun k => ⟨?_, hR⟩, fun k1 => ⟨fun k => ⟨?_, hR⟩, fun k2 => ⟨fun k => ⟨?_, hR⟩, fun k3 => ⟨fun k => ⟨?_, hR⟩, fun k4 => ?_⟩⟩⟩⟩⟩
 ·rw [he, if_pos (by simpa using k)]
 ·rw [he, if_neg (by simpa using k1), if_pos (by simpa using k)]
 ·rw [he, if_neg (by simpa using k1), if_neg (by simpa using k2), if_pos (by omega)]
 ·rw [he, if_neg (by simpa using k1), if_neg (by simpa using k2), if_neg (by omega), if_pos k]
 ·exact absurd (by rw [he, if_neg (by simpa using k1), if_neg (by simpa using k2), if_neg (by omega), if_neg k4]) hne
theorem Z73 (X X' : Za) (n : Nat) (id am ex : Int) (hash : List Int) (hn : X.L.length = n) (hX : Z5A X) (he : Xi X true id am hash ex = 0) (hX' : X' = addX X true id am hash ex) (hs : Xq (X.L ++ [YV X true id am hash ex]) X'.L (n + 1)) :
  evF Zb4 20 18 [.ptr (some ⟨0, 0, 0, 0, 0⟩), .bool true, .int .i64 id, .int .i64 am, .agg [.arr .u8 32 hash], .int .i64 ex] (Z4w X n) (YQ 2 (.ret (.int .i64 0)) 3 [(0, .flat (X'.c (.nslice ⟨2, 0, 70, 0, 0⟩ 70 (n + 1) (n + 1)))), (2, .rows 70 (n + 1) (Z5 X'.L))]) := by
 refine @Eq.mpr _ (let q1 := X.t;
 let q2 := q1.cap;
 let q3 := decide (0 + n ≤ n);
 let q4 := q1.fund;
 let q5 := q1.index;
 let q6 := q1.dust;
 let q7 := q1.fee;
 let q8 := q1.delay;
 let q9 := q1.k0;
 let q10 := q1.k1;
 let q11 := X.side;
 let q12 := [X.a0, X.a1];
 let q13 := X.i0;
 let q14 := [X.i1];
 let q15 := ZT 0 (Z5 X.L);
 let q16 := decide (n = n);
 let q17 := n + 1;
 let q18 := YD [AV.bool true, AV.int i64 id, AV.int i64 am, AV.arr u8 32 hash, AV.int i64 ex, AV.int i64 1, AV.int i64 0, AV.arr u8 32 Zd] 0 70;
 let q19 := X'.t;
 let q20 := decide (q17 = q17);
 Z0 (q2 == 0) False
 (Z0 q3
 ((∀ (i : Nat), i < n → true = true) ∧
 ∃ (X_1 : Za),
 let q41 := [AV.arr u8 32 q4, AV.int i64 q5, AV.int i64 q2, AV.int i64 q6, AV.int i64 q7, AV.int i64 q8, AV.arr u8 32 q9, AV.arr u8 32 q10, AV.int i64 q11, AV.int i64 X.res, AV.arr i64 2 q12, AV.arr i64 2 (q13 :: q14), AV.vrows 70 n q15 n];
 let q42 := X_1.side;
 LV q41 X_1 ∧
 (0 ≤ q42 ∧ q42 ≤ 1) ∧
 List.length X_1.L < 1000 ∧
 Z0 (decide (q13 = q13))
 (Z0 q3
 ((∀ (i : Nat), i < n → true = true) ∧
 ∃ (X_2 : Za),
 LV q41 X_2 ∧
 (0 ≤ X_2.side ∧ X_2.side ≤ 1) ∧
 (q11 = 0 ∨ q11 = 1) ∧
 Z0L X_2 ∧
 Z0 (!Yj (Z6.mk true id am hash ex 1 0 Zd)) False
 (Z0 (id != q13) False
 (Z0 (decide ((↑(List.length (ZO q42 q11 X_1.L)) : Int) ≥ 8)) False
 (Z0 (decide (Ya X_2 q11 < am)) False
 (Z0 q3
 ((∀ (i : Nat), i < n → true = true) ∧
 ∃ (L : List Z6), n = n ∧ q15 = Z5 L ∧ n < 1000000 ∧ Z0 (decide (id = id)) (Z0 (decide (am = am)) (hash = hash ∧ Z0 (decide (ex = ex)) (Zd = Zd ∧ Z0 q16 (Z0 (decide (q17 * 112 ≤ 140737488355328)) ((∀ (i : Nat), i < q17 → Yi (ZV n (Z5 L) q18 i) = true) ∧ ∃ (L_1 : List Z6), ∃ (L' : List Z6), q17 = q17 ∧ (∀ (i : Nat), i < q17 → ZV n (Z5 L) q18 i = Z5 L_1 i) ∧ Xq L_1 L' q17 ∧ q4 = q19.fund ∧ Z0 (decide (q5 = q19.index)) (Z0 (decide (q2 = q19.cap)) (Z0 (decide (q6 = q19.dust)) (Z0 (decide (q7 = q19.fee)) (Z0 (decide (q8 = q19.delay)) (q9 = q19.k0 ∧ q10 = q19.k1 ∧ Z0 (decide (q11 = X'.side)) (Z0 (decide (X.res = X'.res)) (q12 = [X'.a0, X'.a1] ∧ wrap i64 (q13 + 1) :: q14 = [X'.i0, X'.i1] ∧ Z0 q20 (Z0 (decide (q17 ≤ q17)) (Z0 q20 (Z8 2 [(2, 14)] q17 (Z5 X'.L) (Z5 L') ∧ True) False) False) False) False) False) False) False) False) False) False) False) False) False) False) False)
 False ∧
 Z0 q16 (Z0 q16 (Z0 q3 ((∀ (i : Nat), i < n → true = true) ∧ ∃ (L : List Z6), n = n ∧ q15 = Z5 L ∧ n < 1000000 ∧ Z0 q16 (Z0 (decide (q17 * 112 ≤ 140737488355328)) ((∀ (i : Nat), i < q17 → Yi (ZV n (Z5 L) q18 i) = true) ∧ ∃ (L_1 : List Z6), ∃ (L' : List Z6), q17 = q17 ∧ (∀ (i : Nat), i < q17 → ZV n (Z5 L) q18 i = Z5 L_1 i) ∧ Xq L_1 L' q17 ∧ q4 = q19.fund ∧ Z0 (decide (q5 = q19.index)) (Z0 (decide (q2 = q19.cap)) (Z0 (decide (q6 = q19.dust)) (Z0 (decide (q7 = q19.fee)) (Z0 (decide (q8 = q19.delay)) (q9 = q19.k0 ∧ q10 = q19.k1 ∧ Z0 (decide (q11 = X'.side)) (Z0 (decide (X.res = X'.res)) (q12 = [X'.a0, X'.a1] ∧ wrap i64 (q13 + 1) :: q14 = [X'.i0, X'.i1] ∧ Z0 q20 (Z0 (decide (q17 ≤ q17)) (Z0 q20 (Z8 2 [(2, 14)] q17 (Z5 X'.L) (Z5 L') ∧ True) False) False) False) False) False) False) False) False) False) False) False) False) False) False) False)))))
 False)
 False)
 False)) (by kernel_rfl) ?_
 conv => zeta
 subst hn
 have hlen := hX.am.n
 have hs01 : 0 ≤ X.side ∧ X.side ≤ 1 := by have := hX.side; omega
 have hwf : i64.wrap (1 - X.side) = 1 - X.side := w64 (by omega)
 try rw [hwf]
 have hsf : X.side = 0 ∨ X.side = 1 := by have := hX.side; omega
 have hp : Yj ⟨true, id, am, hash, ex, 1, 0, Zd⟩ = Yj (YV X true id am hash ex) := rfl
 rw [hp]
 have ht := Ze4 X.L (YV X true id am hash ex) _ rfl
 have hX2 : X' = { Xm X true 1 with L := X8 (YV X true id am hash ex) X.L } := by rw [hX']; unfold addX; rw [if_pos he]
 generalize X8 (YV X true id am hash ex) X.L = L2 at hX2
 subst hX2
 have hwi : i64.wrap (X.i0 + 1) = X.i0 + 1 := w64 (by have := hX.nx; omega)
 try simp only [Zi]
 try simp only [Zj]
 try simp only [Zk]
 try simp only [Zl]
 try simp only [Zm]
 try simp only [Zh]
 try simp only [Int.toNat_natCast, Nat.zero_add, true_and, and_true, Nat.le_refl]
 unfold Xi at he
 have hf : ZN X.side true = X.side := rfl
 have hnx : X.nx true = X.i0 := rfl
 rw [hf, hnx] at he
 have hno : Yj (YV X true id am hash ex) = true ∧ id = X.i0 ∧ ¬ 8 ≤ (ZO X.side (X.side) X.L).length ∧ ¬ Ya X (X.side) < am := by
  split at he
  ·cases he
  ·rename_i q1
   split at he
   ·cases he
   ·rename_i q2
    split at he
    ·cases he
    ·rename_i q3
     split at he
     ·cases he
     ·rename_i q4
      exact ⟨by simpa using q1, by simpa using q2, q3, q4⟩
 obtain ⟨k1, k2, k3, k4⟩ := hno
 have hR : ∀ τ, Z8 2 τ (X.L.length + 1) (Z5 L2) (Z5 L2) := fun τ => Zn fun _ _ => rfl
 have hcap := hX.cap
 have k3' : ¬ ((ZO X.side (X.side) X.L).length : Int) ≥ 8 := by omega
 refine ⟨by simp [hcap], fun _ _ => trivial, X, .a rfl, hs01, hlen, fun _ _ => trivial, X, .a rfl, hs01, hsf, hX.am, by simp [k1], by simp [k2], k3', k4, ?_, ?_⟩
 all_goals exact ⟨fun _ _ => trivial, X.L, rfl, by omega, by omega, ht.1, X.L ++ [YV X true id am hash ex], L2, ht.2, hs, rfl, rfl, rfl, rfl, rfl, rfl, rfl, rfl, rfl, rfl, rfl, by rw [hwi]; rfl, hR _⟩
theorem Z5B (X : Za) (n : Nat) (id am ex e : Int) (hash : List Int) (hn : X.L.length = n) (hX : Z5A X) (he : e = Xi X false id am hash ex) (hne : e ≠ 0) :
  evF Zb4 20 18 [.ptr (some ⟨0, 0, 0, 0, 0⟩), .bool false, .int .i64 id, .int .i64 am, .agg [.arr .u8 32 hash], .int .i64 ex] (Z4w X n) (YQ 2 (.ret (.int .i64 e)) 2 [(0, .flat (X.c (.nslice ⟨1, 0, 70, 0, 0⟩ 70 n n))), (1, .rows 70 n (Z5 X.L))]) := by
 refine @Eq.mpr _ (let q1 := X.t;
 let q2 := q1.cap;
 let q3 := q1.fund;
 let q4 := q3 = q3;
 let q5 := q1.index;
 let q6 := decide (q5 = q5);
 let q7 := decide (q2 = q2);
 let q8 := q1.dust;
 let q9 := decide (q8 = q8);
 let q10 := q1.fee;
 let q11 := decide (q10 = q10);
 let q12 := q1.delay;
 let q13 := decide (q12 = q12);
 let q14 := q1.k0;
 let q15 := q14 = q14;
 let q16 := q1.k1;
 let q17 := q16 = q16;
 let q18 := X.side;
 let q19 := decide (q18 = q18);
 let q20 := X.res;
 let q21 := decide (q20 = q20);
 let q22 := [X.a0, X.a1];
 let q23 := q22 = q22;
 let q24 := X.i1;
 let q25 := [X.i0, q24];
 let q26 := decide (n = n);
 let q27 := Z5 X.L;
 let q28 := q4 ∧ Z0 q6 (Z0 q7 (Z0 q9 (Z0 q11 (Z0 q13 (q15 ∧ q17 ∧ Z0 q19 (Z0 q21 (q23 ∧ q25 = q25 ∧ Z0 q26 (Z0 (decide (n ≤ n)) (Z0 q26 (Z8 2 [] n q27 q27 ∧ True) False) False) False) False) False) False) False) False) False) False;
 let q29 := decide (0 + n ≤ n);
 let q30 := ZT 0 q27;
 let q31 := wrap i64 (1 - q18);
 let q32 := n + 1;
 let q33 := YD [AV.bool false, AV.int i64 id, AV.int i64 am, AV.arr u8 32 hash, AV.int i64 ex, AV.int i64 1, AV.int i64 0, AV.arr u8 32 Zd] 0 70;
 Z0 (q2 == 0) (Z0 (decide (1 = e)) q28 False)
 (Z0 q29
 ((∀ (i : Nat), i < n → true = true) ∧
 ∃ (X_1 : Za),
 let q67 := [AV.arr u8 32 q3, AV.int i64 q5, AV.int i64 q2, AV.int i64 q8, AV.int i64 q10, AV.int i64 q12, AV.arr u8 32 q14, AV.arr u8 32 q16, AV.int i64 q18, AV.int i64 q20, AV.arr i64 2 q22, AV.arr i64 2 q25, AV.vrows 70 n q30 n];
 let q68 := X_1.side;
 LV q67 X_1 ∧
 (0 ≤ q68 ∧ q68 ≤ 1) ∧
 List.length X_1.L < 1000 ∧
 Z0 (decide (q24 = q24))
 (Z0 q29
 ((∀ (i : Nat), i < n → true = true) ∧
 ∃ (X_2 : Za),
 LV q67 X_2 ∧
 (0 ≤ X_2.side ∧ X_2.side ≤ 1) ∧
 (q31 = 0 ∨ q31 = 1) ∧
 Z0L X_2 ∧
 Z0 (!Yj (Z6.mk false id am hash ex 1 0 Zd)) (Z0 (decide (2 = e)) q28 False)
 (Z0 (id != q24) (Z0 (decide (200 = e)) q28 False)
 (Z0 (decide ((↑(List.length (ZO q68 q31 X_1.L)) : Int) ≥ 8)) (Z0 (decide (201 = e)) q28 False)
 (Z0 (decide (Ya X_2 q31 < am)) (Z0 (decide (202 = e)) q28 False)
 (Z0 q29 ((∀ (i : Nat), i < n → true = true) ∧ ∃ (L : List Z6), n = n ∧ q30 = Z5 L ∧ n < 1000000 ∧ Z0 (decide (id = id)) (Z0 (decide (am = am)) (hash = hash ∧ Z0 (decide (ex = ex)) (Zd = Zd ∧ Z0 q26 (Z0 (decide (q32 * 112 ≤ 140737488355328)) ((∀ (i : Nat), i < q32 → Yi (ZV n (Z5 L) q33 i) = true) ∧ ∃ (L_1 : List Z6), ∃ (L' : List Z6), q32 = q32 ∧ (∀ (i : Nat), i < q32 → ZV n (Z5 L) q33 i = Z5 L_1 i) ∧ Xq L_1 L' q32 ∧ Z0 (decide (0 = e)) (q4 ∧ Z0 q6 (Z0 q7 (Z0 q9 (Z0 q11 (Z0 q13 (q15 ∧ q17 ∧ Z0 q19 (Z0 q21 (q23 ∧ [X.i0, wrap i64 (q24 + 1)] = q25 ∧ False) False) False) False) False) False) False) False) False) False) False) False) False) False) False ∧
 Z0 q26 (Z0 q26 (Z0 q29 ((∀ (i : Nat), i < n → true = true) ∧ ∃ (L : List Z6), n = n ∧ q30 = Z5 L ∧ n < 1000000 ∧ Z0 q26 (Z0 (decide (q32 * 112 ≤ 140737488355328)) ((∀ (i : Nat), i < q32 → Yi (ZV n (Z5 L) q33 i) = true) ∧ ∃ (L_1 : List Z6), ∃ (L' : List Z6), q32 = q32 ∧ (∀ (i : Nat), i < q32 → ZV n (Z5 L) q33 i = Z5 L_1 i) ∧ Xq L_1 L' q32 ∧ Z0 (decide (0 = e)) (q4 ∧ Z0 q6 (Z0 q7 (Z0 q9 (Z0 q11 (Z0 q13 (q15 ∧ q17 ∧ Z0 q19 (Z0 q21 (q23 ∧ [X.i0, wrap i64 (q24 + 1)] = q25 ∧ False) False) False) False) False) False) False) False) False) False) False) False) False) False)))))
 False)
 False)
 False)) (by kernel_rfl) ?_
 conv => zeta
 subst hn
 have hlen := hX.am.n
 have hs01 : 0 ≤ X.side ∧ X.side ≤ 1 := by have := hX.side; omega
 have hwf : i64.wrap (1 - X.side) = 1 - X.side := w64 (by omega)
 try rw [hwf]
 have hsf : 1 - X.side = 0 ∨ 1 - X.side = 1 := by have := hX.side; omega
 have hp : Yj ⟨false, id, am, hash, ex, 1, 0, Zd⟩ = Yj (YV X false id am hash ex) := rfl
 rw [hp]
 try simp only [Zi]
 try simp only [Zj]
 try simp only [Zk]
 try simp only [Zl]
 try simp only [Zm]
 try simp only [Zh]
 try simp only [Int.toNat_natCast, Nat.zero_add, true_and, and_true, Nat.le_refl]
 unfold Xi at he
 have hf : ZN X.side false = 1 - X.side := rfl
 have hnx : X.nx false = X.i1 := rfl
 rw [hf, hnx] at he
 have hR : Z8 2 [] X.L.length (Z5 X.L) (Z5 X.L) := Zn fun _ _ => rfl
 refine ⟨fun hc => absurd hc (by simp [hX.cap]), fun _ => ⟨fun _ _ => trivial, X, .a rfl, hs01, hlen, fun _ _ => trivial, X, .a rfl, hs01, hsf, hX.am, fun k => ⟨?_, hR⟩, fun k1 => ⟨fun k => ⟨?_, hR⟩, fun k2 => ⟨fun k => ⟨?_, hR⟩, fun k3 => ⟨fun k => ⟨?_, hR⟩, fun k4 => ?_⟩⟩⟩⟩⟩
 ·rw [he, if_pos (by simpa using k)]
 ·rw [he, if_neg (by simpa using k1), if_pos (by simpa using k)]
 ·rw [he, if_neg (by simpa using k1), if_neg (by simpa using k2), if_pos (by omega)]
 ·rw [he, if_neg (by simpa using k1), if_neg (by simpa using k2), if_neg (by omega), if_pos k]
 ·exact absurd (by rw [he, if_neg (by simpa using k1), if_neg (by simpa using k2), if_neg (by omega), if_neg k4]) hne
theorem Z5C (X X' : Za) (n : Nat) (id am ex : Int) (hash : List Int) (hn : X.L.length = n) (hX : Z5A X) (he : Xi X false id am hash ex = 0) (hX' : X' = addX X false id am hash ex) (hs : Xq (X.L ++ [YV X false id am hash ex]) X'.L (n + 1)) :
  evF Zb4 20 18 [.ptr (some ⟨0, 0, 0, 0, 0⟩), .bool false, .int .i64 id, .int .i64 am, .agg [.arr .u8 32 hash], .int .i64 ex] (Z4w X n) (YQ 2 (.ret (.int .i64 0)) 3 [(0, .flat (X'.c (.nslice ⟨2, 0, 70, 0, 0⟩ 70 (n + 1) (n + 1)))), (2, .rows 70 (n + 1) (Z5 X'.L))]) := by
 refine @Eq.mpr _ (let q1 := X.t;
 let q2 := q1.cap;
 let q3 := decide (0 + n ≤ n);
 let q4 := q1.fund;
 let q5 := q1.index;
 let q6 := q1.dust;
 let q7 := q1.fee;
 let q8 := q1.delay;
 let q9 := q1.k0;
 let q10 := q1.k1;
 let q11 := X.side;
 let q12 := [X.a0, X.a1];
 let q13 := X.i1;
 let q14 := ZT 0 (Z5 X.L);
 let q15 := wrap i64 (1 - q11);
 let q16 := decide (n = n);
 let q17 := n + 1;
 let q18 := YD [AV.bool false, AV.int i64 id, AV.int i64 am, AV.arr u8 32 hash, AV.int i64 ex, AV.int i64 1, AV.int i64 0, AV.arr u8 32 Zd] 0 70;
 let q19 := X'.t;
 let q20 := decide (q17 = q17);
 Z0 (q2 == 0) False
 (Z0 q3
 ((∀ (i : Nat), i < n → true = true) ∧
 ∃ (X_1 : Za),
 let q41 := [AV.arr u8 32 q4, AV.int i64 q5, AV.int i64 q2, AV.int i64 q6, AV.int i64 q7, AV.int i64 q8, AV.arr u8 32 q9, AV.arr u8 32 q10, AV.int i64 q11, AV.int i64 X.res, AV.arr i64 2 q12, AV.arr i64 2 [X.i0, q13], AV.vrows 70 n q14 n];
 let q42 := X_1.side;
 LV q41 X_1 ∧
 (0 ≤ q42 ∧ q42 ≤ 1) ∧
 List.length X_1.L < 1000 ∧
 Z0 (decide (q13 = q13))
 (Z0 q3
 ((∀ (i : Nat), i < n → true = true) ∧
 ∃ (X_2 : Za),
 LV q41 X_2 ∧
 (0 ≤ X_2.side ∧ X_2.side ≤ 1) ∧
 (q15 = 0 ∨ q15 = 1) ∧
 Z0L X_2 ∧
 Z0 (!Yj (Z6.mk false id am hash ex 1 0 Zd)) False
 (Z0 (id != q13) False
 (Z0 (decide ((↑(List.length (ZO q42 q15 X_1.L)) : Int) ≥ 8)) False
 (Z0 (decide (Ya X_2 q15 < am)) False
 (Z0 q3
 ((∀ (i : Nat), i < n → true = true) ∧
 ∃ (L : List Z6), n = n ∧ q14 = Z5 L ∧ n < 1000000 ∧ Z0 (decide (id = id)) (Z0 (decide (am = am)) (hash = hash ∧ Z0 (decide (ex = ex)) (Zd = Zd ∧ Z0 q16 (Z0 (decide (q17 * 112 ≤ 140737488355328)) ((∀ (i : Nat), i < q17 → Yi (ZV n (Z5 L) q18 i) = true) ∧ ∃ (L_1 : List Z6), ∃ (L' : List Z6), q17 = q17 ∧ (∀ (i : Nat), i < q17 → ZV n (Z5 L) q18 i = Z5 L_1 i) ∧ Xq L_1 L' q17 ∧ q4 = q19.fund ∧ Z0 (decide (q5 = q19.index)) (Z0 (decide (q2 = q19.cap)) (Z0 (decide (q6 = q19.dust)) (Z0 (decide (q7 = q19.fee)) (Z0 (decide (q8 = q19.delay)) (q9 = q19.k0 ∧ q10 = q19.k1 ∧ Z0 (decide (q11 = X'.side)) (Z0 (decide (X.res = X'.res)) (q12 = [X'.a0, X'.a1] ∧ [X.i0, wrap i64 (q13 + 1)] = [X'.i0, X'.i1] ∧ Z0 q20 (Z0 (decide (q17 ≤ q17)) (Z0 q20 (Z8 2 [(2, 14)] q17 (Z5 X'.L) (Z5 L') ∧ True) False) False) False) False) False) False) False) False) False) False) False) False) False) False) False)
 False ∧
 Z0 q16 (Z0 q16 (Z0 q3 ((∀ (i : Nat), i < n → true = true) ∧ ∃ (L : List Z6), n = n ∧ q14 = Z5 L ∧ n < 1000000 ∧ Z0 q16 (Z0 (decide (q17 * 112 ≤ 140737488355328)) ((∀ (i : Nat), i < q17 → Yi (ZV n (Z5 L) q18 i) = true) ∧ ∃ (L_1 : List Z6), ∃ (L' : List Z6), q17 = q17 ∧ (∀ (i : Nat), i < q17 → ZV n (Z5 L) q18 i = Z5 L_1 i) ∧ Xq L_1 L' q17 ∧ q4 = q19.fund ∧ Z0 (decide (q5 = q19.index)) (Z0 (decide (q2 = q19.cap)) (Z0 (decide (q6 = q19.dust)) (Z0 (decide (q7 = q19.fee)) (Z0 (decide (q8 = q19.delay)) (q9 = q19.k0 ∧ q10 = q19.k1 ∧ Z0 (decide (q11 = X'.side)) (Z0 (decide (X.res = X'.res)) (q12 = [X'.a0, X'.a1] ∧ [X.i0, wrap i64 (q13 + 1)] = [X'.i0, X'.i1] ∧ Z0 q20 (Z0 (decide (q17 ≤ q17)) (Z0 q20 (Z8 2 [(2, 14)] q17 (Z5 X'.L) (Z5 L') ∧ True) False) False) False) False) False) False) False) False) False) False) False) False) False) False) False)))))
 False)
 False)
 False)) (by kernel_rfl) ?_
 conv => zeta
 subst hn
 have hlen := hX.am.n
 have hs01 : 0 ≤ X.side ∧ X.side ≤ 1 := by have := hX.side; omega
 have hwf : i64.wrap (1 - X.side) = 1 - X.side := w64 (by omega)
 try rw [hwf]
 have hsf : 1 - X.side = 0 ∨ 1 - X.side = 1 := by have := hX.side; omega
 have hp : Yj ⟨false, id, am, hash, ex, 1, 0, Zd⟩ = Yj (YV X false id am hash ex) := rfl
 rw [hp]
 have ht := Ze4 X.L (YV X false id am hash ex) _ rfl
 have hX2 : X' = { Xm X false 1 with L := X8 (YV X false id am hash ex) X.L } := by rw [hX']; unfold addX; rw [if_pos he]
 generalize X8 (YV X false id am hash ex) X.L = L2 at hX2
 subst hX2
 have hwi : i64.wrap (X.i1 + 1) = X.i1 + 1 := w64 (by have := hX.nx; omega)
 try simp only [Zi]
 try simp only [Zj]
 try simp only [Zk]
 try simp only [Zl]
 try simp only [Zm]
 try simp only [Zh]
 try simp only [Int.toNat_natCast, Nat.zero_add, true_and, and_true, Nat.le_refl]
 unfold Xi at he
 have hf : ZN X.side false = 1 - X.side := rfl
 have hnx : X.nx false = X.i1 := rfl
 rw [hf, hnx] at he
 have hno : Yj (YV X false id am hash ex) = true ∧ id = X.i1 ∧ ¬ 8 ≤ (ZO X.side (1 - X.side) X.L).length ∧ ¬ Ya X (1 - X.side) < am := by
  split at he
  ·cases he
  ·rename_i q1
   split at he
   ·cases he
   ·rename_i q2
    split at he
    ·cases he
    ·rename_i q3
     split at he
     ·cases he
     ·rename_i q4
      exact ⟨by simpa using q1, by simpa using q2, q3, q4⟩
 obtain ⟨k1, k2, k3, k4⟩ := hno
 have hR : ∀ τ, Z8 2 τ (X.L.length + 1) (Z5 L2) (Z5 L2) := fun τ => Zn fun _ _ => rfl
 have hcap := hX.cap
 have k3' : ¬ ((ZO X.side (1 - X.side) X.L).length : Int) ≥ 8 := by omega
 refine ⟨by simp [hcap], fun _ _ => trivial, X, .a rfl, hs01, hlen, fun _ _ => trivial, X, .a rfl, hs01, hsf, hX.am, by simp [k1], by simp [k2], k3', k4, ?_, ?_⟩
 all_goals exact ⟨fun _ _ => trivial, X.L, rfl, by omega, by omega, ht.1, X.L ++ [YV X false id am hash ex], L2, ht.2, hs, rfl, rfl, rfl, rfl, rfl, rfl, rfl, rfl, rfl, rfl, rfl, by rw [hwi]; rfl, hR _⟩
end Go.Tk
end
section
namespace Go.Tk
open IntKind (i64 u8 u32 u64 wrap)
def Vb (a b : Z6) : Prop := Wu a < Wu b ∨ (Wu a = Wu b ∧ a.id < b.id)
theorem Zb5 {a b : Z6} (h : Xh a b) : Vb a b := by
 unfold Xh at h
 unfold Vb Wu
 rcases h with ⟨h1, h2⟩ | ⟨h1, h2, _⟩
 ·rw [h1, h2]; exact .inl (by decide)
 ·rw [h1]; exact .inr ⟨rfl, h2⟩
theorem Un (h : Z6) : ∀ (L : List Z6), (X8 h L).Perm (L ++ [h])
 | [] => .refl _
 | x :: r => by
  unfold X8
  split
  ·exact (List.perm_append_comm (l₁ := [h]) (l₂ := x :: r))
  ·exact (Un h r).cons x
theorem QD {h z : Z6} {L : List Z6} : z ∈ X8 h L ↔ z ∈ L ∨ z = h := by
 rw [(Un h L).mem_iff]; simp
theorem Z2q (h : Z6) (L : List Z6) : (X8 h L).length = L.length + 1 := by
 rw [(Un h L).length_eq]; simp
theorem Z3y {h : Z6} : ∀ {L : List Z6}, L.Pairwise Vb → (∀ x ∈ L, x.own = h.own → x.id < h.id) → (X8 h L).Pairwise Vb
 | [], _, _ => by simp [X8]
 | x :: r, hp, hx => by
  obtain ⟨h1, h2⟩ := List.pairwise_cons.1 hp
  unfold X8
  split
  ·rename_i hc
   refine List.pairwise_cons.2 ⟨fun y hy => ?_, hp⟩
   have kx : Wu x = 1 := by unfold Wu; rw [hc.2]
   have kh : Wu h = 0 := by unfold Wu; rw [hc.1]
   rcases List.mem_cons.1 hy with rfl | hy
   ·exact .inl (by omega)
   ·have := h1 y hy
    unfold Vb at *
    omega
  ·rename_i hc
   refine List.pairwise_cons.2 ⟨fun y hy => ?_, Z3y h2 fun z hz => hx z (by simp [hz])⟩
   rcases QD.1 hy with hy | rfl
   ·exact h1 y hy
   ·have := hx x (by simp)
    unfold Vb Wu
    cases hxo : x.own <;> cases hyo : y.own <;> simp_all
theorem Z2r : ∀ {L : List Z6}, L.Pairwise Vb → ∀ a ∈ L, ∀ b ∈ L, a = b ∨ Vb a b ∨ Vb b a
 | [], _, a, ha, _, _ => by cases ha
 | x :: r, hp, a, ha, b, hb => by
  obtain ⟨h1, h2⟩ := List.pairwise_cons.1 hp
  rcases List.mem_cons.1 ha with e1 | e1 <;> rcases List.mem_cons.1 hb with e2 | e2
  ·exact .inl (e1.trans e2.symm)
  ·rw [e1]; exact .inr (.inl (h1 b e2))
  ·rw [e2]; exact .inr (.inr (h1 a e1))
  ·exact Z2r h2 a e1 b e2
theorem Zb6 {L : List Z6} (h : L.Pairwise Vb) : Z70 ltH L :=
 h.imp fun {a b} hab => by
  rw [Z09]
  unfold Vb at hab
  omega
theorem Z7Z {side : Int} (hs : side = 0 ∨ side = 1) : ∀ (L : List Z6), (ZO side 0 L).length + (ZO side 1 L).length = L.length
 | [] => rfl
 | x :: r => by
  have ih := Z7Z hs r
  unfold ZO at *
  simp only [List.filter_cons, List.length_cons]
  have : (ZN side x.own = 0 ∧ ¬ ZN side x.own = 1) ∨ (¬ ZN side x.own = 0 ∧ ZN side x.own = 1) := by
   unfold ZN
   rcases hs with rfl | rfl <;> cases x.own <;> simp
  rcases this with ⟨h1, h2⟩ | ⟨h1, h2⟩
  ·rw [decide_eq_true h1, decide_eq_false h2]; simp; omega
  ·rw [decide_eq_false h1, decide_eq_true h2]; simp; omega
theorem Za.Inv.len {H : List Int → List Int} {X : Za} (h : X.Inv H) : X.L.length ≤ 16 := by
 have := Z7Z h.side X.L
 have := h.n0
 have := h.n1
 omega
theorem Za.Inv.am {H : List Int → List Int} {X : Za} (h : X.Inv H) : Z0L X := Z7X (by have := h.len; omega) h.tb h.res h.a0 h.a1 h.und
theorem Za.Inv.add {H : List Int → List Int} {X : Za} (h : X.Inv H) : Z5A X :=
 ⟨by have := ZZ h.tb; omega, h.side, h.am, h.i0, h.i1⟩
theorem Za.Inv.less {H : List Int → List Int} {X : Za} (h : X.Inv H) : X.L.Pairwise Vb := h.fol.imp fun hab => Zb5 hab
theorem YN {H : List Int → List Int} {X : Za} {h : Z6} (hu : XH H X h = true) : Yj h = true ∧ h.id < X.nx h.own ∧ (1 ≤ h.stage ∧ h.stage ≤ 9) ∧ Z2m H h = true := by
 unfold XH at hu
 simp only [Bool.and_eq_true, decide_eq_true_eq] at hu
 exact ⟨hu.1.1.1, hu.1.1.2, hu.1.2, hu.2⟩
theorem Z0a {X : Za} {own : Bool} {id am ex : Int} {hash : List Int} (he : Xi X own id am hash ex = 0) : Yj (YV X own id am hash ex) = true ∧ id = X.nx own ∧ (ZO X.side (ZN X.side own) X.L).length < 8 ∧ am ≤ Ya X (ZN X.side own) := by
 unfold Xi at he
 split at he
 ·cases he
 ·rename_i q1
  split at he
  ·cases he
  ·rename_i q2
   split at he
   ·cases he
   ·rename_i q3
    split at he
    ·cases he
    ·rename_i q4
     exact ⟨by simpa using q1, by simpa using q2, by omega, by omega⟩
theorem Za.Inv.sort {H : List Int → List Int} {X : Za} (h : X.Inv H) {own : Bool} {id am ex : Int} {hash : List Int} (he : Xi X own id am hash ex = 0) : Xq (X.L ++ [YV X own id am hash ex]) (X8 (YV X own id am hash ex) X.L) (X.L.length + 1) := by
 obtain ⟨_, hid, _, _⟩ := Z0a he
 have hl : (X8 (YV X own id am hash ex) X.L).Pairwise Vb := Z3y h.less fun x hx ho => by
  have := (YN (h.und x hx)).2.1
  rw [ho] at this
  show x.id < id
  rw [hid]; exact this
 refine ⟨by simp, Nat.succ_pos _, by have := h.len; omega, Un _ _, Zb6 hl, fun a ha b hb h1 h2 => ?_⟩
 rw [Z09] at h1 h2
 rcases Z2r hl a ha b hb with e | e | e
 ·exact e
 ·exact absurd e h1
 ·exact absurd e h2
end Go.Tk
end
section
namespace Go.Tk
open IntKind (i64 u8 u32 u64 wrap)
structure LB (cs : List AV) (n : Nat) (f : Nat → List AV) (X : Za) : Prop where
 h1 : cs = X.c (.nslice ⟨1, 0, 70, 0, 0⟩ 70 n n)
 h2 : f = Z5 X.L
 h3 : n = X.L.length
def Zfe (H : List Int → List Int) (c : Bool) : YR := fun args h K => match args with
 | [.ptr (some ⟨l, 0, 0, 0, 0⟩), _, _, _, _, _] => match h.get l with
  |some (.flat [_, _, _, _, _, _, _, _, _, _, _, _, .nslice ⟨b, 0, 70, 0, 0⟩ 70 _ _]) => frA [l, b] h 20 args fun Bs a => match Bs, a with
   | [.flat cs, .rows 70 n f], [.ptr (some ⟨0, 0, 0, 0, 0⟩), .bool own, .int .i64 id, .int .i64 am, .agg [.arr .u8 32 hash], .int .i64 ex] =>
    ∃ X, LB cs n f X ∧ X.Inv H ∧ (match c with
     | true => Xi X own id am hash ex = 0 ∧ K (.ret (.int .i64 0)) ⟨h.next + 1, (l, .flat ((addX X own id am hash ex).c (.nslice ⟨h.next, 0, 70, 0, 0⟩ 70 (X.L.length + 1) (X.L.length + 1)))) :: (h.next, .rows 70 (X.L.length + 1) (Z5 (addX X own id am hash ex).L)) :: YP (YP h.bs l) b⟩
     | false => Xi X own id am hash ex ≠ 0 ∧ K (.ret (.int .i64 (Xi X own id am hash ex))) ⟨h.next, (l, .flat (X.c (.nslice ⟨b, 0, 70, 0, 0⟩ 70 X.L.length X.L.length))) :: (b, .rows 70 X.L.length (Z5 X.L)) :: YP (YP h.bs l) b⟩)
   | _, _ => False
  | _ => False
 | _ => False
theorem ZcT {H : List Int → List Int} (c : Bool) (args : List AV) (h : Z9) (K : KO) (hl : Zfe H c args h K) : Zo PP 18 args h K := by
 unfold Zfe at hl
 split at hl
 ·split at hl
  ·refine Spec.fsumm hl fun Bs a hlen hK0 => ?_
   split at hK0
   ·rename_i cs n f own id am hash ex
    obtain ⟨X, ⟨rfl, rfl, rfl⟩, hI, hK⟩ := hK0
    cases c with
    | true =>
     obtain ⟨he, hK1⟩ := hK
     have hs : Xq (X.L ++ [YV X own id am hash ex]) (addX X own id am hash ex).L (X.L.length + 1) := by
      have := hI.sort he
      unfold addX
      rw [if_pos he]
      exact this
     cases own with
     | true => exact ⟨_, _, _, _, _, .evM Z15 (Z73 X _ _ id am ex hash rfl hI.add he rfl hs), by simp, .ret _ _ rfl, .cons _ _ _ _ _ _ rfl (.flat _ _ rfl) (.cons _ _ _ _ _ _ rfl (.rows _ _ _ (fun _ _ => rfl)) .nil), hK1⟩
     | false => exact ⟨_, _, _, _, _, .evM Z15 (Z5C X _ _ id am ex hash rfl hI.add he rfl hs), by simp, .ret _ _ rfl, .cons _ _ _ _ _ _ rfl (.flat _ _ rfl) (.cons _ _ _ _ _ _ rfl (.rows _ _ _ (fun _ _ => rfl)) .nil), hK1⟩
    | false =>
     obtain ⟨he, hK2⟩ := hK
     cases own with
     | true => exact ⟨_, _, _, _, _, .evM Z15 (Z72 X _ id am ex _ hash rfl hI.add rfl he), by simp, .ret _ _ rfl, .cons _ _ _ _ _ _ rfl (.flat _ _ rfl) (.cons _ _ _ _ _ _ rfl (.rows _ _ _ (fun _ _ => rfl)) .nil), hK2⟩
     | false => exact ⟨_, _, _, _, _, .evM Z15 (Z5B X _ id am ex _ hash rfl hI.add rfl he), by simp, .ret _ _ rfl, .cons _ _ _ _ _ _ rfl (.flat _ _ rfl) (.cons _ _ _ _ _ _ rfl (.rows _ _ _ (fun _ _ => rfl)) .nil), hK2⟩
   ·exact hK0.elim
  ·exact hl.elim
 ·exact hl.elim
end Go.Tk
end
section
namespace Go.Tk
open IntKind (i64 u8 u32 u64 wrap)
def isP (own : Bool) (id : Int) (p : Z6) : Prop := p.own = own ∧ p.id = id
theorem Z2s {own : Bool} {id : Int} : ∀ {L : List Z6}, (∀ j, j < L.length → ¬ isP own id (L.getD j Zc)) → ZM own id L = L.length
 | [], _ => rfl
 | x :: r, h => by
  unfold ZM
  have h0 : ¬ (x.own = own ∧ x.id = id) := h 0 (by simp)
  rw [if_neg h0, Z2s fun j hj => by have := h (j + 1) (by simpa using hj); rwa [List.getD_cons_succ] at this]
  rfl
theorem Z2t {own : Bool} {id : Int} : ∀ {L : List Z6} {i : Nat}, i < L.length → (∀ j, j < i → ¬ isP own id (L.getD j Zc)) → isP own id (L.getD i Zc) → ZM own id L = i
 | [], i, hi, _, _ => by simp at hi
 | x :: r, 0, _, _, h => by
  unfold ZM
  exact if_pos h
 | x :: r, i + 1, hi, hn, h => by
  unfold ZM
  have h0 : ¬ (x.own = own ∧ x.id = id) := hn 0 (Nat.succ_pos _)
  rw [if_neg h0, Z2t (i := i) (by simpa using hi) (fun j hj => by have := hn (j + 1) (by omega); rwa [List.getD_cons_succ] at this) (by rwa [List.getD_cons_succ] at h)]
def fiV (own : Bool) (id : Int) (L : List Z6) : Int := if ZM own id L < L.length then (ZM own id L : Int) else -1
theorem Zgg (p : Z6) (own : Bool) (id : Int) (b : Bool) (hb : b = decide (p.own = own ∧ p.id = id)) :
  evF G0 20 142 [.agg p.c, .pview [.bool own] 0, .pview [.int .i64 id] 0] ⟨0, []⟩ (Yp (fun v => v = .bool b)) := by
 refine @Eq.mpr _ (Z0 (p.own == own) (AV.bool (p.id == id) = AV.bool b) (AV.bool false = AV.bool b)) (by kernel_rfl) ?_
 subst hb
 simp only [Va]
 congr 1
 by_cases h1 : p.own = own <;> by_cases h2 : p.id = id <;> simp [h1, h2]
def Zgh : ZU := fun args h K => ZY none h true 20 args fun a => match a with
 | [.agg [.bool ow, .int .i64 i, .int .i64 am, .arr .u8 32 ha, .int .i64 ex, .int .i64 st, .int .i64 en, .arr .u8 32 se], .pview [.bool own] 0, .pview [.int .i64 id] 0] => K (.bool (decide (ow = own ∧ i = id)))
 | _ => False
theorem ZcU (args : List AV) (h : Z9) (K : AV → Prop) (hl : Zgh args h K) : Zo PP 142 args h fun o h' => ∃ v, o = .ret v ∧ h' = h ∧ K v := by
 refine ZH.psumm (d := 20) (Zx _ _ _ _ _ hl fun a ha => ?_)
 split at ha
 ·rename_i ow i am ha' ex st en se own id
  exact ⟨_, ZH.evV Zw (Zgg ⟨ow, i, am, ha', ex, st, en, se⟩ own id _ rfl), fun _ => rfl, ha⟩
 ·exact ha.elim
noncomputable def Zff : Zg := G0.withP 142 Zgh
theorem ZcV : Zff.Ok := Zg.withP_ok Zw ZcU
def fdC (own : Bool) (id : Int) : AV := .func (.func 142) [] [.pview [.bool own] 0, .pview [.int .i64 id] 0]
def fiS (L : List Z6) (own : Bool) (id : Int) (n i : Nat) : St := ⟨19, [(8, .int .i64 i), (7, .int .i64 n), (1, fdC own id), (0, .vrows 70 n (Z5 L) n)], ⟨0, []⟩, []⟩
def fiE : St := ⟨19, [], ⟨0, []⟩, []⟩
def fiR (i : Nat) : St := ⟨19, [(4, .int .i64 i)], ⟨0, []⟩, []⟩
theorem ZhO (L : List Z6) (own : Bool) (id : Int) (n i : Nat) (Z1 Z2 Z3 : Prop) (hn : n < 1000) (hL : L.length = n) (hi : i ≤ n) (h1 : i < n → ¬ isP own id (L.getD i Zc) → Z1) (h2 : i = n → Z2) (h3 : i < n → isP own id (L.getD i Zc) → Z3) :
  ZI Zff 20 114 0 0 (fiS L own id n i) (rdM 0 0 9 (fiS L own id n (i + 1)) fiE (fiR i) (fiR i) Z1 Z2 Z3 False) := by
 refine @Eq.mpr _ (let q1 := List.getD L (Int.toNat (↑i : Int)) Zc;
 let q2 := [AV.bool own];
 let q3 := [AV.int i64 id];
 let q4 := decide (n = n);
 Z0 (decide ((↑i : Int) < (↑n : Int))) (Z0 (decide (0 ≤ (↑i : Int) ∧ (↑i : Int) < (↑n : Int))) (Z0 (decide (q1.own = own ∧ q1.id = id)) (Z0 (decide ((↑i : Int) = (↑i : Int))) Z3 False) (Z0 (decide (wrap i64 ((↑i : Int) + 1) = (↑(i + 1) : Int))) (Z0 (decide ((↑n : Int) = (↑n : Int))) (q2 = q2 ∧ q3 = q3 ∧ Z0 q4 (Z5 L = Z5 L ∧ Z0 q4 Z1 False) False) False) False)) False) Z2) (by kernel_rfl) ?_
 conv => zeta
 try simp only [Zi]
 try simp only [Zj]
 try simp only [Zk]
 try simp only [Zl]
 try simp only [Zm]
 try simp only [Zh]
 try simp only [Int.toNat_natCast, Nat.zero_add, true_and, and_true, Nat.le_refl]
 refine ⟨fun hc => ?_, fun hc => h2 (by omega)⟩
 have hlt : i < n := by omega
 have hwr : i64.wrap ((i : Int) + 1) = ((i + 1 : Nat) : Int) := by rw [w64 (by omega)]; omega
 refine ⟨by omega, fun hm => h3 hlt hm, fun hm => ?_⟩
 have := h1 hlt hm
 repeat' apply And.intro
 all_goals first | omega | exact hwr | exact this | rfl
noncomputable def Ze5 (L : List Z6) (own : Bool) (id : Int) (n : Nat) : Zg := Zff.withL 114 0 (goM 0 (fiS L own id n 0) (n < 1000 ∧ L.length = n) (Yv 0 n 9 (fun i => ¬ isP own id (L.getD i Zc) ∧ i < n) (fun i => i = n) (fun i => i < n ∧ isP own id (L.getD i Zc)) (fun _ => False) (fun _ => fiE) (fun i => fiR i) (fun i => fiR i)))
theorem Zb7 (L : List Z6) (own : Bool) (id : Int) (n : Nat) : (Ze5 L own id n).Ok :=
 Zg.withGoM (N := 20) (S := fun i => fiS L own id n i) ZcV (by kernel_rfl) fun hC => ⟨rfl, fun i hi _ => ZhO L own id n i _ _ _ hC.1 hC.2 hi (fun h h' => ⟨⟨h', h⟩, h⟩) (fun h => h) (fun h h' => ⟨h, h'⟩)⟩
theorem ZhP (L : List Z6) (own : Bool) (id : Int) (n : Nat) (r : Int) (hL : L.length = n) (hn : n < 1000) (hr : r = fiV own id L) :
  evF (Ze5 L own id n) 20 114 [.vrows 70 n (Z5 L) n, fdC own id] ⟨0, []⟩ (Yp (fun v => v = .int .i64 r)) := by
 refine @Eq.mpr _ (let q1 := [AV.bool own];
 let q2 := [AV.int i64 id];
 let q3 := decide (n = n);
 Z0 (decide ((↑n : Int) = (↑n : Int))) (q1 = q1 ∧ q2 = q2 ∧ Z0 q3 (Z5 L = Z5 L ∧ Z0 q3 ((n < 1000 ∧ List.length L = n) ∧ ∀ (i : Nat), i ≤ n → (∀ (j : Nat), j < i → (fun (i : Nat) => ¬isP own id (List.getD L i Zc) ∧ i < n) j) → (i = n → AV.int i64 (-1) = AV.int i64 r) ∧ (i < n ∧ isP own id (List.getD L i Zc) → AV.int i64 (↑i : Int) = AV.int i64 r) ∧ (False → False)) False) False) False) (by kernel_rfl) ?_
 conv => zeta
 try simp only [Zi]
 try simp only [Zj]
 try simp only [Zk]
 try simp only [Zl]
 try simp only [Zm]
 try simp only [Zh]
 try simp only [Int.toNat_natCast, Nat.zero_add, true_and, and_true, Nat.le_refl]
 subst hL
 repeat' apply And.intro
 all_goals first | rfl | exact hn | skip
 intro i hi hg
 refine ⟨fun he => ?_, fun he => ?_, fun h => h.elim⟩
 ·rw [hr]
  unfold fiV
  rw [Z2s fun j hj => (hg j (by omega)).1, if_neg (by omega)]
 ·rw [hr]
  unfold fiV
  rw [Z2t he.1 (fun j hj => (hg j hj).1) he.2, if_pos he.1]
def Zgi : ZU := fun args h K => ZY none h true 20 args fun a => match a with
 | [.vrows 70 n f n', .func (.func 142) [] [.pview [.bool own] 0, .pview [.int .i64 id] 0]] => ∃ L, n' = n ∧ f = Z5 L ∧ L.length = n ∧ n < 1000 ∧ K (.int .i64 (fiV own id L))
 | _ => False
theorem ZcW (args : List AV) (h : Z9) (K : AV → Prop) (hl : Zgi args h K) : Zo PP 114 args h fun o h' => ∃ v, o = .ret v ∧ h' = h ∧ K v := by
 refine ZH.psumm (d := 20) (Zx _ _ _ _ _ hl fun a ha => ?_)
 split at ha
 ·obtain ⟨L, rfl, rfl, h1, h2, hK⟩ := ha
  exact ⟨_, ZH.evV (Zb7 L _ _ _) (ZhP L _ _ _ _ h1 h2 rfl), fun _ => rfl, hK⟩
 ·exact ha.elim
noncomputable def Ze6 : Zg := G0.withP 114 Zgi
theorem Zb8 : Ze6.Ok := Zg.withP_ok Zw ZcW
theorem ZhQ (X : Za) (own : Bool) (id r : Int) (hn : X.L.length < 1000) (hr : r = fiV own id X.L) :
  evF Ze6 20 111 [Uu X, .bool own, .int .i64 id] ⟨0, []⟩ (Yp (fun v => v = .int .i64 r)) := by
 refine @Eq.mpr _ (let q1 := List.length X.L;
 ∃ (L : List Z6), q1 = q1 ∧ Z5 X.L = Z5 L ∧ List.length L = q1 ∧ q1 < 1000 ∧ AV.int i64 (fiV own id L) = AV.int i64 r) (by kernel_rfl) ?_
 conv => zeta
 subst hr
 exact ⟨X.L, rfl, rfl, rfl, hn, rfl⟩
def Ze7 : ZU := fun args h K => ZY none h true 20 args fun a => match a with
 | [.pview cs 0, .bool own, .int .i64 id] => ∃ X, LV cs X ∧ X.L.length < 1000 ∧ K (.int .i64 (fiV own id X.L))
 | _ => False
theorem Zb9 (args : List AV) (h : Z9) (K : AV → Prop) (hl : Ze7 args h K) : Zo PP 111 args h fun o h' => ∃ v, o = .ret v ∧ h' = h ∧ K v := by
 refine ZH.psumm (d := 20) (Zx _ _ _ _ _ hl fun a ha => ?_)
 split at ha
 ·obtain ⟨X, hX, h1, hK⟩ := ha
  exact ⟨_, (ZH.evV Zb8 (ZhQ X _ _ _ h1 rfl)).conv fun E r hr => hr.head (fun _ hc => Vo hX hc) fun _ hc => hc, fun _ => rfl, hK⟩
 ·exact ha.elim
end Go.Tk
end
section
namespace Go.Tk
open IntKind (i64 u8 u32 u64 wrap)
theorem Zba {s : Int} (h : 1 ≤ s ∧ s ≤ 9) : s = 1 ∨ s = 2 ∨ s = 3 ∨ s = 4 ∨ s = 5 ∨ s = 6 ∨ s = 7 ∨ s = 8 ∨ s = 9 := by omega
theorem Ze8 {s : Int} (h : 1 ≤ s ∧ s ≤ 4) : s = 1 ∨ s = 2 ∨ s = 3 ∨ s = 4 := by omega
theorem ZhR (o : Bool) (s m r : Int) (on : Bool) (hs : 1 ≤ s ∧ s ≤ 9) (hm : 1 ≤ m ∧ m ≤ 4) (hr : r = ZR o s m) (hon : on = decide (XZ o s = m)) :
  evF G0 20 51 [.bool o, .int .i64 s, .int .i64 m] ⟨0, []⟩ (Yp (fun v => v = .tuple [.int .i64 r, .bool on, .int .i64 0])) := by
 refine @Eq.mpr _ (let q1 := decide (1 ≤ s);
 let q2 := decide (1 ≤ m);
 let q3 := decide (s ≤ 10);
 let q4 := false == q3;
 let q5 := [AV.int i64 0];
 let q6 := AV.tuple (AV.int i64 r :: AV.bool on :: q5);
 let q7 := AV.tuple [AV.int i64 0, AV.bool false, AV.int i64 2] = q6;
 let q8 := AV.tuple (AV.int i64 s :: AV.bool false :: q5) = q6;
 let q9 := AV.tuple (AV.int i64 (wrap i64 (s + 1)) :: AV.bool true :: q5) = q6;
 let q10 := Z0 (0 != m) q8 q9;
 let q11 := decide (s = s);
 let q12 := decide (0 ≤ s ∧ s < 10);
 Z0 q1 (Z0 q2 (Z0 q4 q7 (Z0 (false == decide (m ≤ 4)) q7 (Z0 q1 (Z0 (!q3) q10 (Z0 (s == 10) q10 (Z0 (o == true) (Z0 q11 (Z0 q12 (Z0 (List.getD [(0 : Int), 1, 2, 3, 4, 0, 3, 4, 1, 2] (Int.toNat s) 0 != m) q8 q9) False) False) (Z0 q11 (Z0 q12 (Z0 (List.getD [(0 : Int), 3, 4, 1, 2, 0, 1, 2, 3, 4] (Int.toNat s) 0 != m) q8 q9) False) False)))) q10))) (Z0 q4 q7 q7)) (Z0 q2 q7 q7)) (by kernel_rfl) ?_
 conv => zeta
 subst hr hon
 cases o <;> rcases Zba hs with h | h | h | h | h | h | h | h | h <;> subst h <;> rcases Ze8 hm with h | h | h | h <;> subst h <;> exact rfl
theorem Zgj (o : Bool) (s m r : Int) (on : Bool) (hs : 1 ≤ s ∧ s ≤ 9) (hm : 1 ≤ m ∧ m ≤ 4) (hr : r = ZR o s m) (hon : on = decide (XZ o s = m)) :
  evF G0 20 89 [.bool o, .int .i64 s, .int .i64 m] ⟨0, []⟩ (Yp (fun v => v = .tuple [.int .i64 r, .bool on, .int .i64 0])) := by
 refine @Eq.mpr _ (let q1 := decide (s < 1);
 let q2 := [AV.int i64 0];
 let q3 := AV.tuple (AV.int i64 r :: AV.bool on :: q2);
 let q4 := AV.tuple [AV.int i64 0, AV.bool false, AV.int i64 2] = q3;
 let q5 := decide (s > 10);
 let q6 := AV.tuple (AV.int i64 (wrap i64 (s + 1)) :: AV.bool true :: q2) = q3;
 let q7 := AV.tuple (AV.int i64 s :: AV.bool false :: q2) = q3;
 let q8 := Z0 (0 == m) q6 q7;
 let q9 := decide (0 ≤ s ∧ s < 10);
 let q10 := 0 + Int.toNat s;
 Z0 q1 q4 (Z0 q5 q4 (Z0 (decide (m < 1)) q4 (Z0 (decide (m > 4)) q4 (Z0 q1 q8 (Z0 q5 q8 (Z0 (s == 5) q8 (Z0 (s == 10) q8 (Z0 o (Z0 q9 (Z0 (decide (q10 < 10)) (Z0 (List.getD [(0 : Int), 1, 2, 3, 4, 0, 3, 4, 1, 2] q10 0 == m) q6 q7) False) False) (Z0 q9 (Z0 (decide (q10 < 10)) (Z0 (List.getD [(0 : Int), 3, 4, 1, 2, 0, 1, 2, 3, 4] q10 0 == m) q6 q7) False) False)))))))))) (by kernel_rfl) ?_
 conv => zeta
 subst hr hon
 cases o <;> rcases Zba hs with h | h | h | h | h | h | h | h | h <;> subst h <;> rcases Ze8 hm with h | h | h | h <;> subst h <;> exact rfl
theorem ZhS (o u : Bool) (s : Int) (b : Bool) (hb : b = YZ o s u) :
  evF G0 20 54 [.bool o, .int .i64 s, .bool u] ⟨0, []⟩ (Yp (fun v => v = .bool b)) := by
 refine @Eq.mpr _ (let q1 := AV.bool b;
 let q2 := AV.bool false = q1;
 Z0 (o == u) (Z0 (decide (4 ≤ s)) (AV.bool (decide (s ≤ 6)) = q1) q2) (Z0 (decide (2 ≤ s)) (AV.bool (decide (s ≤ 8)) = q1) q2)) (by kernel_rfl) ?_
 conv => zeta
 subst hb
 unfold YZ
 rw [Bool.decide_and, Bool.decide_and]
 cases o <;> cases u <;> simp [Z0] <;> (split <;> simp_all) <;> (try omega)
theorem Zgk (o u : Bool) (s : Int) (b : Bool) (hb : b = YZ o s u) :
  evF G0 20 91 [.bool o, .int .i64 s, .bool u] ⟨0, []⟩ (Yp (fun v => v = .bool b)) := by
 refine @Eq.mpr _ (let q1 := AV.bool b;
 let q2 := AV.bool false = q1;
 Z0 (o == u) (Z0 (decide (s ≥ 4)) (AV.bool (decide (s ≤ 6)) = q1) q2) (Z0 (decide (s ≥ 2)) (AV.bool (decide (s ≤ 8)) = q1) q2)) (by kernel_rfl) ?_
 conv => zeta
 subst hb
 unfold YZ
 rw [Bool.decide_and, Bool.decide_and]
 cases o <;> cases u <;> simp [Z0] <;> (split <;> simp_all) <;> (try omega)
theorem ZhT (o : Bool) (s r : Int) (hs : 1 ≤ s ∧ s ≤ 9) (hr : r = Yn o s) :
  evF G0 20 63 [.bool o, .int .i64 s] ⟨0, []⟩ (Yp (fun v => v = .int .i64 r)) := by
 refine @Eq.mpr _ (let q1 := AV.int i64 r;
 let q2 := AV.int i64 0 = q1;
 let q3 := AV.int i64 s = q1;
 let q4 := Z0 (false == o) q3 (Z0 (false == (s == 6)) q3 (AV.int i64 5 = q1));
 Z0 (decide (1 ≤ s)) (Z0 (!decide (s ≤ 10)) q2 (Z0 (false == !o) q4 (Z0 (false == (s == 1)) q4 q2))) q2) (by kernel_rfl) ?_
 conv => zeta
 subst hr
 cases o <;> rcases Zba hs with h | h | h | h | h | h | h | h | h <;> subst h <;> exact rfl
theorem Zgl (o : Bool) (s r : Int) (hs : 1 ≤ s ∧ s ≤ 9) (hr : r = Yn o s) :
  evF G0 20 90 [.bool o, .int .i64 s] ⟨0, []⟩ (Yp (fun v => v = .int .i64 r)) := by
 refine @Eq.mpr _ (let q1 := AV.int i64 r;
 let q2 := AV.int i64 0 = q1;
 let q3 := AV.int i64 s = q1;
 let q4 := Z0 o (Z0 (s == 6) (AV.int i64 5 = q1) q3) q3;
 Z0 (decide (s < 1)) q2 (Z0 (decide (s > 10)) q2 (Z0 (!o) (Z0 (s == 1) q2 q4) q4))) (by kernel_rfl) ?_
 conv => zeta
 subst hr
 cases o <;> rcases Zba hs with h | h | h | h | h | h | h | h | h <;> subst h <;> exact rfl
theorem ZhU (s r e : Int) (hs : 1 ≤ s ∧ s ≤ 9) (hr : r = if s = 5 then 6 else 0) (he : e = if s = 5 then 0 else 190) :
  evF G0 20 112 [.int .i64 s] ⟨0, []⟩ (Yp (fun v => v = .tuple [.int .i64 r, .int .i64 e])) := by
 refine @Eq.mpr _ (let q1 := AV.int i64 0;
 let q2 := AV.tuple [AV.int i64 r, AV.int i64 e];
 let q3 := AV.tuple [q1, AV.int i64 2] = q2;
 Z0 (decide (1 ≤ s)) (Z0 (!decide (s ≤ 10)) q3 (Z0 (s != 5) (AV.tuple [q1, AV.int i64 190] = q2) (AV.tuple [AV.int i64 6, q1] = q2))) q3) (by kernel_rfl) ?_
 conv => zeta
 subst hr he
 rcases Zba hs with h | h | h | h | h | h | h | h | h <;> subst h <;> exact rfl
def waS : ZU := fun args _ K => match args with
 | [.bool o, .int .i64 s] => Zt (1 ≤ s ∧ s ≤ 9) (K (.int .i64 (XZ o s)))
 | _ => False
def neS : ZU := fun args _ K => match args with
 | [.bool o, .int .i64 s, .int .i64 m] => Zt ((1 ≤ s ∧ s ≤ 9) ∧ 1 ≤ m ∧ m ≤ 4) (K (.tuple [.int .i64 (ZR o s m), .bool (decide (XZ o s = m)), .int .i64 0]))
 | _ => False
theorem Zfg (args : List AV) (h : Z9) (K : AV → Prop) (hl : neS args h K) : Zo PP 51 args h fun o h' => ∃ v, o = .ret v ∧ h' = h ∧ K v := by
 unfold neS at hl
 split at hl
 ·obtain ⟨⟨h1, h2⟩, hK⟩ := Ze hl
  exact Yf Zw rfl (ZhR _ _ _ _ _ h1 h2 rfl rfl) (fun u hu => hu ▸ hK)
 ·exact hl.elim
theorem ZcX (args : List AV) (h : Z9) (K : AV → Prop) (hl : neS args h K) : Zo PP 89 args h fun o h' => ∃ v, o = .ret v ∧ h' = h ∧ K v := by
 unfold neS at hl
 split at hl
 ·obtain ⟨⟨h1, h2⟩, hK⟩ := Ze hl
  exact Yf Zw rfl (Zgj _ _ _ _ _ h1 h2 rfl rfl) (fun u hu => hu ▸ hK)
 ·exact hl.elim
def Z9g : ZU := fun args _ K => match args with
 | [.bool o, .int .i64 s, .bool u] => K (.bool (YZ o s u))
 | _ => False
theorem ZcY (args : List AV) (h : Z9) (K : AV → Prop) (hl : Z9g args h K) : Zo PP 54 args h fun o h' => ∃ v, o = .ret v ∧ h' = h ∧ K v := by
 unfold Z9g at hl
 split at hl
 ·exact Yf Zw rfl (ZhS _ _ _ _ rfl) (fun u hu => hu ▸ hl)
 ·exact hl.elim
theorem Zbb (args : List AV) (h : Z9) (K : AV → Prop) (hl : Z9g args h K) : Zo PP 91 args h fun o h' => ∃ v, o = .ret v ∧ h' = h ∧ K v := by
 unfold Z9g at hl
 split at hl
 ·exact Yf Zw rfl (Zgk _ _ _ _ rfl) (fun u hu => hu ▸ hl)
 ·exact hl.elim
def bkS : ZU := fun args _ K => match args with
 | [.bool o, .int .i64 s] => Zt (1 ≤ s ∧ s ≤ 9) (K (.int .i64 (Yn o s)))
 | _ => False
theorem Zfh (args : List AV) (h : Z9) (K : AV → Prop) (hl : bkS args h K) : Zo PP 63 args h fun o h' => ∃ v, o = .ret v ∧ h' = h ∧ K v := by
 unfold bkS at hl
 split at hl
 ·obtain ⟨h1, hK⟩ := Ze hl
  exact Yf Zw rfl (ZhT _ _ _ h1 rfl) (fun u hu => hu ▸ hK)
 ·exact hl.elim
theorem ZcZ (args : List AV) (h : Z9) (K : AV → Prop) (hl : bkS args h K) : Zo PP 90 args h fun o h' => ∃ v, o = .ret v ∧ h' = h ∧ K v := by
 unfold bkS at hl
 split at hl
 ·obtain ⟨h1, hK⟩ := Ze hl
  exact Yf Zw rfl (Zgl _ _ _ h1 rfl) (fun u hu => hu ▸ hK)
 ·exact hl.elim
def seS : ZU := fun args _ K => match args with
 | [.int .i64 s] => Zt (1 ≤ s ∧ s ≤ 9) (K (.tuple [.int .i64 (if s = 5 then 6 else 0), .int .i64 (if s = 5 then 0 else 190)]))
 | _ => False
theorem Zfi (args : List AV) (h : Z9) (K : AV → Prop) (hl : seS args h K) : Zo PP 112 args h fun o h' => ∃ v, o = .ret v ∧ h' = h ∧ K v := by
 unfold seS at hl
 split at hl
 ·obtain ⟨h1, hK⟩ := Ze hl
  exact Yf Zw rfl (ZhU _ _ _ h1 rfl rfl) (fun u hu => hu ▸ hK)
 ·exact hl.elim
end Go.Tk
end
section
namespace Go.Tk
open IntKind (i64 u8 u32 u64 wrap)
noncomputable def Zfj (H1 : List Int → List Int) (H2 : List Int → List Int → List Int) (B : Nat) : Zg := (((G8 H1 H2 B).withP 111 Ze7).withP 112 seS).withF 44 ZcS
theorem Z80 : (Zfj Zq Z2Q 1000).Ok := Zg.withF_ok (Zg.withP_ok (Zg.withP_ok (ZdS 1000 (by decide)) Zb9) Zfi) Z4v
theorem Ze9 {L : List Z6} {I : Nat} {q : Z6} (hI : I < L.length) (i : Nat) : (L.set I q).getD i Zc = if i = I then q else L.getD i Zc := by
 rw [List.getD_eq_getElem?_getD, List.getElem?_set]
 by_cases h : i = I
 ·subst h; rw [if_pos rfl, if_pos hI, if_pos rfl]; rfl
 ·rw [if_neg (fun q => h q.symm), if_neg h, List.getD_eq_getElem?_getD]
theorem Zgm (X : Za) (n : Nat) (own : Bool) (id k e : Int) (sec : List Int) (H1 : List Int → List Int) (H2 : List Int → List Int → List Int) (B : Nat) (hn : X.L.length = n) (hlen : X.L.length < 1000) (hcap : X.t.cap ≠ 0) (hst : ∀ h ∈ X.L, 1 ≤ h.stage ∧ h.stage ≤ 9) (hOk : ∀ h ∈ X.L, h.Ok) (hsec : sec.length = 32) (hl : (H1 sec).length = 32) (hB : 32 ≤ B) (he : e = YU H1 X own id k sec) (hne : e ≠ 0) :
  evF (Zfj H1 H2 B) 20 62 [.ptr (some ⟨0, 0, 0, 0, 0⟩), .bool own, .int .i64 id, .int .i64 k, .agg [.arr .u8 32 sec]] (Z4w X n) (YQ 2 (.ret (.int .i64 e)) 2 [(0, .flat (X.c (.nslice ⟨1, 0, 70, 0, 0⟩ 70 n n))), (1, .rows 70 n (Z5 X.L))]) := by
 refine @Eq.mpr _ (let q1 := X.t;
 let q2 := q1.cap;
 let q3 := q1.fund;
 let q4 := q3 = q3;
 let q5 := q1.index;
 let q6 := decide (q5 = q5);
 let q7 := decide (q2 = q2);
 let q8 := q1.dust;
 let q9 := decide (q8 = q8);
 let q10 := q1.fee;
 let q11 := decide (q10 = q10);
 let q12 := q1.delay;
 let q13 := decide (q12 = q12);
 let q14 := q1.k0;
 let q15 := q14 = q14;
 let q16 := q1.k1;
 let q17 := q16 = q16;
 let q18 := X.side;
 let q19 := decide (q18 = q18);
 let q20 := X.res;
 let q21 := decide (q20 = q20);
 let q22 := [X.a0, X.a1];
 let q23 := q22 = q22;
 let q24 := [X.i0, X.i1];
 let q25 := q24 = q24;
 let q26 := decide (n = n);
 let q27 := Z5 X.L;
 let q28 := q4 ∧ Z0 q6 (Z0 q7 (Z0 q9 (Z0 q11 (Z0 q13 (q15 ∧ q17 ∧ Z0 q19 (Z0 q21 (q23 ∧ q25 ∧ Z0 q26 (Z0 (decide (n ≤ n)) (Z0 q26 (Z8 2 [] n q27 q27 ∧ True) False) False) False) False) False) False) False) False) False) False;
 let q29 := decide (0 + n ≤ n);
 let q30 := ZT 0 q27;
 let q31 := List.length sec;
 let q32 := Z0 (decide (0 = e)) (q4 ∧ Z0 q6 (Z0 q7 (Z0 q9 (Z0 q11 (Z0 q13 (q15 ∧ q17 ∧ Z0 q19 (Z0 q21 (q23 ∧ q25 ∧ False) False) False) False) False) False) False) False) False;
 Z0 (q2 == 0) (Z0 (decide (1 = e)) q28 False)
 (Z0 q29
 ((∀ (i : Nat), i < n → true = true) ∧
 ∃ (X_1 : Za),
 let q65 := fiV own id X_1.L;
 let q66 := decide (0 ≤ q65 ∧ q65 < ↑n);
 let q67 := 0 + Int.toNat q65;
 let q68 := List.getD X.L q67 Zc;
 let q69 := q68.stage;
 let q70 := if q69 = 5 then 0 else 190;
 let q71 := q68.hash;
 let q72 := q70 != 0;
 let q73 := Z0 (decide (q70 = e)) q28 False;
 LV [AV.arr u8 32 q3, AV.int i64 q5, AV.int i64 q2, AV.int i64 q8, AV.int i64 q10, AV.int i64 q12, AV.arr u8 32 q14, AV.arr u8 32 q16, AV.int i64 q18, AV.int i64 q20, AV.arr i64 2 q22, AV.arr i64 2 q24, AV.vrows 70 n q30 n] X_1 ∧
 List.length X_1.L < 1000 ∧
 Z0 (decide (q65 < 0)) (Z0 (decide (5 = e)) q28 False)
 (Z0 q66 (Z0 (decide (q67 < n)) (Z0 (decide (1 ≤ q69 ∧ q69 ≤ 9)) (Z0 (q70 == 0) (Z0 (k == 1) (q71 = q71 ∧ Z0 (decide (q31 = 32)) (Z0 (decide (32 = q31)) (Z0 (decide (q31 ≤ B)) (Z0 (decide (List.length (H1 sec) = 32 ∧ List.length q71 = 32)) (Z0 (!H1 sec == q71) (Z0 (decide (203 = e)) q28 False) (Z0 q72 q73 (sec = sec ∧ sec = sec ∧ Z0 q29 ((∀ (i : Nat), i < n → true = true) ∧ ∃ (L : List Z6), n = n ∧ q30 = Z5 L ∧ n < 1000000 ∧ Z0 q66 (Z0 (decide (q67 < n)) q32 False) False) False))) False) False) False) False) (Z0 q72 q73 (sec = sec ∧ sec = sec ∧ Z0 q29 ((∀ (i : Nat), i < n → true = true) ∧ ∃ (L : List Z6), n = n ∧ q30 = Z5 L ∧ n < 1000000 ∧ Z0 q66 (Z0 (decide (q67 < n)) q32 False) False) False))) (Z0 q72 q73 (sec = sec ∧ sec = sec ∧ Z0 q29 ((∀ (i : Nat), i < n → true = true) ∧ ∃ (L : List Z6), n = n ∧ q30 = Z5 L ∧ n < 1000000 ∧ Z0 q66 (Z0 (decide (q67 < n)) q32 False) False) False))) False) False) False))
 False)) (by kernel_rfl) ?_
 conv => zeta
 subst hn
 have hR : Z8 2 [] X.L.length (Z5 X.L) (Z5 X.L) := Zn fun _ _ => rfl
 try simp only [Zi]
 try simp only [Zj]
 try simp only [Zk]
 try simp only [Zl]
 try simp only [Zm]
 try simp only [Zh]
 try simp only [Int.toNat_natCast, Nat.zero_add, true_and, and_true, Nat.le_refl]
 unfold YU at he
 refine ⟨fun hc => absurd hc (by simp [hcap]), fun _ => ⟨fun _ _ => trivial, X, .a rfl, hlen, ?_⟩⟩
 by_cases hI : ZM own id X.L < X.L.length
 ·have hv : fiV own id X.L = ((ZM own id X.L : Nat) : Int) := by unfold fiV; rw [if_pos hI]
  rw [hv]
  simp only [Int.toNat_natCast]
  rw [if_neg (by omega)] at he
  have hx := ZK hI
  have h1 := hst _ hx
  have h2 := (hOk _ hx).hash
  refine ⟨fun h => by omega, fun _ => ⟨by omega, hI, h1, ?_⟩⟩
  by_cases h5 : (X.L.getD (ZM own id X.L) Zc).stage = 5
  ·rw [if_neg (fun hq => hq h5)] at he
   simp only [if_pos h5]
   have hz : (fun (_ : Unit) => (k = 1 ∧ H1 sec ≠ (X.L.getD (ZM own id X.L) Zc).hash)) () → e = 203 := fun h => by rw [he, if_pos h]
   have hno : ¬ (k = 1 ∧ H1 sec ≠ (X.L.getD (ZM own id X.L) Zc).hash) → False := fun h => hne (by rw [he, if_neg h])
   refine ⟨fun _ => ⟨fun hk => ⟨hsec, hsec.symm, by omega, ⟨hl, h2⟩, fun hh => ⟨?_, hR⟩, fun hh => (hno fun hq => hq.2 (by simpa using hh)).elim⟩, fun hk => (hno fun hq => by simp [hq.1] at hk).elim⟩, fun h => by simp at h⟩
   exact (hz ⟨by simpa using hk, by simpa using hh⟩).symm
  ·rw [if_pos h5] at he
   simp only [if_neg h5]
   exact ⟨fun h => by simp at h, fun _ => ⟨fun _ => ⟨he.symm, hR⟩, fun h => by simp at h⟩⟩
 ·have hv : fiV own id X.L = -1 := by unfold fiV; rw [if_neg hI]
  rw [hv]
  rw [if_pos (by omega)] at he
  exact ⟨fun _ => ⟨he.symm, hR⟩, fun h => by omega⟩
theorem Zgn (X X' : Za) (n : Nat) (own : Bool) (id k : Int) (sec : List Int) (H1 : List Int → List Int) (H2 : List Int → List Int → List Int) (B : Nat) (hn : X.L.length = n) (hlen : X.L.length < 1000) (hcap : X.t.cap ≠ 0) (hst : ∀ h ∈ X.L, 1 ≤ h.stage ∧ h.stage ≤ 9) (hOk : ∀ h ∈ X.L, h.Ok) (hsec : sec.length = 32) (hl : (H1 sec).length = 32) (hB : 32 ≤ B) (he : YU H1 X own id k sec = 0) (hX' : X' = endX H1 X own id k sec) :
  evF (Zfj H1 H2 B) 20 62 [.ptr (some ⟨0, 0, 0, 0, 0⟩), .bool own, .int .i64 id, .int .i64 k, .agg [.arr .u8 32 sec]] (Z4w X n) (YQ 2 (.ret (.int .i64 0)) 3 [(0, .flat (X'.c (.nslice ⟨2, 0, 70, 0, 0⟩ 70 n n))), (2, .rows 70 n (Z5 X'.L))]) := by
 refine @Eq.mpr _ (let q1 := X.t;
 let q2 := q1.cap;
 let q3 := decide ((0 : Nat) + n ≤ n);
 let q4 := q1.fund;
 let q5 := q1.index;
 let q6 := q1.dust;
 let q7 := q1.fee;
 let q8 := q1.delay;
 let q9 := q1.k0;
 let q10 := q1.k1;
 let q11 := [X.a0, X.a1];
 let q12 := [X.i0, X.i1];
 let q13 := X.L;
 let q14 := Z5 q13;
 let q15 := ZT (0 : Nat) q14;
 let q16 := List.length sec;
 let q17 := X'.t;
 let q18 := q4 = q17.fund;
 let q19 := decide (q5 = q17.index);
 let q20 := decide (q2 = q17.cap);
 let q21 := decide (q6 = q17.dust);
 let q22 := decide (q7 = q17.fee);
 let q23 := decide (q8 = q17.delay);
 let q24 := q9 = q17.k0;
 let q25 := q10 = q17.k1;
 let q26 := decide (X.side = X'.side);
 let q27 := decide (X.res = X'.res);
 let q28 := q11 = [X'.a0, X'.a1];
 let q29 := q12 = [X'.i0, X'.i1];
 let q30 := decide (n = n);
 let q31 := decide (n ≤ n);
 let q32 := Z5 X'.L;
 Z0 (q2 == (0 : Int)) False
 (Z0 q3
 ((∀ (i : Nat), i < n → true = true) ∧
 ∃ (X_1 : Za),
 let q65 := fiV own id X_1.L;
 let q66 := decide ((0 : Int) ≤ q65 ∧ q65 < (↑n : Int));
 let q67 := (0 : Nat) + Int.toNat q65;
 let q68 := List.getD q13 q67 Zc;
 let q69 := q68.stage;
 let q70 := q69 = (5 : Int);
 let q71 := if q70 then (0 : Int) else (190 : Int);
 let q72 := q68.hash;
 let q73 := q71 != (0 : Int);
 let q74 := Z0 (decide (q71 = (0 : Int))) (q18 ∧ Z0 q19 (Z0 q20 (Z0 q21 (Z0 q22 (Z0 q23 (q24 ∧ q25 ∧ Z0 q26 (Z0 q27 (q28 ∧ q29 ∧ Z0 q30 (Z0 q31 (Z0 q30 (Z8 (2 : Nat) [((2 : Nat), (1 : Nat))] n q32 q14 ∧ True) False) False) False) False) False) False) False) False) False) False) False;
 LV [AV.arr u8 (32 : Nat) q4, AV.int i64 q5, AV.int i64 q2, AV.int i64 q6, AV.int i64 q7, AV.int i64 q8, AV.arr u8 (32 : Nat) q9, AV.arr u8 (32 : Nat) q10, AV.int i64 X.side, AV.int i64 X.res, AV.arr i64 (2 : Nat) q11, AV.arr i64 (2 : Nat) q12, AV.vrows (70 : Nat) n q15 n] X_1 ∧
 List.length X_1.L < (1000 : Nat) ∧
 Z0 (decide (q65 < (0 : Int))) False
 (Z0 q66
 (Z0 (decide (q67 < n))
 (Z0 (decide ((1 : Int) ≤ q69 ∧ q69 ≤ (9 : Int)))
 (Z0 (q71 == (0 : Int))
 (Z0 (k == (1 : Int))
 (q72 = q72 ∧ Z0 (decide (q16 = (32 : Nat))) (Z0 (decide ((32 : Nat) = q16)) (Z0 (decide (q16 ≤ B)) (Z0 (decide (List.length (H1 sec) = (32 : Nat) ∧ List.length q72 = (32 : Nat))) (Z0 (!H1 sec == q72) False (Z0 q73 q74 (sec = sec ∧ sec = sec ∧ Z0 q3 ((∀ (i : Nat), i < n → true = true) ∧ ∃ (L : List Z6), n = n ∧ q15 = Z5 L ∧ n < (1000000 : Nat) ∧ Z0 q66 (Z0 (decide (q67 < n)) (q18 ∧ Z0 q19 (Z0 q20 (Z0 q21 (Z0 q22 (Z0 q23 (q24 ∧ q25 ∧ Z0 q26 (Z0 q27 (q28 ∧ q29 ∧ Z0 q30 (Z0 q31 (Z0 q30 (Z8 (2 : Nat) [((2 : Nat), (5 : Nat))] n q32 (QI (Z5 L) q67 [AV.bool q68.own, AV.int i64 q68.id, AV.int i64 q68.amount, AV.arr u8 (32 : Nat) q72, AV.int i64 q68.expiry, AV.int i64 (if q70 then (6 : Int) else (0 : Int)), AV.int i64 k, AV.arr u8 (32 : Nat) sec]) ∧ True) False) False) False) False) False) False) False) False) False) False) False) False) False))) False) False) False) False)
 (Z0 q73 q74 (sec = sec ∧ sec = sec ∧ Z0 q3 ((∀ (i : Nat), i < n → true = true) ∧ ∃ (L : List Z6), n = n ∧ q15 = Z5 L ∧ n < (1000000 : Nat) ∧ Z0 q66 (Z0 (decide (q67 < n)) (q18 ∧ Z0 q19 (Z0 q20 (Z0 q21 (Z0 q22 (Z0 q23 (q24 ∧ q25 ∧ Z0 q26 (Z0 q27 (q28 ∧ q29 ∧ Z0 q30 (Z0 q31 (Z0 q30 (Z8 (2 : Nat) [((2 : Nat), (4 : Nat))] n q32 (QI (Z5 L) q67 [AV.bool q68.own, AV.int i64 q68.id, AV.int i64 q68.amount, AV.arr u8 (32 : Nat) q72, AV.int i64 q68.expiry, AV.int i64 (if q70 then (6 : Int) else (0 : Int)), AV.int i64 k, AV.arr u8 (32 : Nat) sec]) ∧ True) False) False) False) False) False) False) False) False) False) False) False) False) False)))
 (Z0 q73 q74 (sec = sec ∧ sec = sec ∧ Z0 q3 ((∀ (i : Nat), i < n → true = true) ∧ ∃ (L : List Z6), n = n ∧ q15 = Z5 L ∧ n < (1000000 : Nat) ∧ Z0 q66 (Z0 (decide (q67 < n)) (q18 ∧ Z0 q19 (Z0 q20 (Z0 q21 (Z0 q22 (Z0 q23 (q24 ∧ q25 ∧ Z0 q26 (Z0 q27 (q28 ∧ q29 ∧ Z0 q30 (Z0 q31 (Z0 q30 (Z8 (2 : Nat) [((2 : Nat), (4 : Nat))] n q32 (QI (Z5 L) q67 [AV.bool q68.own, AV.int i64 q68.id, AV.int i64 q68.amount, AV.arr u8 (32 : Nat) q72, AV.int i64 q68.expiry, AV.int i64 (if q70 then (6 : Int) else (0 : Int)), AV.int i64 k, AV.arr u8 (32 : Nat) sec]) ∧ True) False) False) False) False) False) False) False) False) False) False) False) False) False)))
 False)
 False)
 False))
 False)) (by kernel_rfl) ?_
 conv => zeta
 subst hn
 have hX2 : X' = { X with L := X.L.set (ZM own id X.L) (Vx (X.L.getD (ZM own id X.L) Zc) k sec) } := by rw [hX']; unfold endX; rw [if_pos he]
 have hI : ZM own id X.L < X.L.length := by
  rcases Nat.lt_or_ge (ZM own id X.L) X.L.length with h | h
  ·exact h
  ·unfold YU at he; rw [if_pos h] at he; cases he
 have h5 : (X.L.getD (ZM own id X.L) Zc).stage = 5 := by
  unfold YU at he
  rw [if_neg (by omega)] at he
  by_cases h : (X.L.getD (ZM own id X.L) Zc).stage = 5
  ·exact h
  ·rw [if_pos h] at he; cases he
 have hno : ¬ (k = 1 ∧ H1 sec ≠ (X.L.getD (ZM own id X.L) Zc).hash) := fun hq => by
  unfold YU at he
  rw [if_neg (by omega), if_neg (fun hq2 => hq2 h5), if_pos hq] at he
  cases he
 have hU : ∀ τ, Z8 2 τ X.L.length (Z5 (X.L.set (ZM own id X.L) (Vx (X.L.getD (ZM own id X.L) Zc) k sec))) (QI (Z5 X.L) (ZM own id X.L) (Vx (X.L.getD (ZM own id X.L) Zc) k sec).c) := fun τ => Zn fun i hi => by
  rw [U5]
  unfold Z5
  rw [Ze9 hI]
  by_cases h : i = ZM own id X.L
  ·rw [if_pos h, h, Nat.beq_refl]
  ·rw [if_neg h, Zu h]
 generalize hLn : X.L.set (ZM own id X.L) (Vx (X.L.getD (ZM own id X.L) Zc) k sec) = L2 at *
 subst hX2
 try simp only [Zi]
 try simp only [Zj]
 try simp only [Zk]
 try simp only [Zl]
 try simp only [Zm]
 try simp only [Zh]
 try simp only [Int.toNat_natCast, Nat.zero_add, true_and, and_true, Nat.le_refl]
 have hx := ZK hI
 have h1 := hst _ hx
 have h2 := (hOk _ hx).hash
 have hv : fiV own id X.L = ((ZM own id X.L : Nat) : Int) := by unfold fiV; rw [if_pos hI]
 refine ⟨by simp [hcap], fun _ _ => trivial, X, .a rfl, hlen, ?_⟩
 rw [hv]
 simp only [Int.toNat_natCast, if_pos h5]
 refine ⟨by omega, by omega, hI, h1, fun _ => ⟨fun hk => ⟨hsec, hsec.symm, by omega, ⟨hl, h2⟩, ?_, ?_⟩, fun hk => ?_⟩, fun h => by simp at h⟩
 ·have hk : k = 1 := by simpa using hk
  have : H1 sec = (X.L.getD (ZM own id X.L) Zc).hash := Classical.byContradiction fun hq => hno ⟨hk, hq⟩
  rw [this]; simp
 all_goals
  refine ⟨fun h => by simp at h, fun _ => ⟨fun _ _ => trivial, X.L, rfl, by omega, ?_⟩⟩
  repeat' apply And.intro
  all_goals first | rfl | exact hU _ | omega
theorem Za.Inv.stage {H : List Int → List Int} {X : Za} (h : X.Inv H) : ∀ z ∈ X.L, 1 ≤ z.stage ∧ z.stage ≤ 9 := fun z hz => (YN (h.und z hz)).2.2.1
def Zfk (c : Bool) : YR := fun args h K => match args with
 | [.ptr (some ⟨l, 0, 0, 0, 0⟩), _, _, _, _] => match h.get l with
  |some (.flat [_, _, _, _, _, _, _, _, _, _, _, _, .nslice ⟨b, 0, 70, 0, 0⟩ 70 _ _]) => frA [l, b] h 20 args fun Bs a => match Bs, a with
   | [.flat cs, .rows 70 n f], [.ptr (some ⟨0, 0, 0, 0, 0⟩), .bool own, .int .i64 id, .int .i64 k, .agg [.arr .u8 32 sec]] =>
    ∃ X, LB cs n f X ∧ X.Inv Zq ∧ sec.length = 32 ∧ (match c with
     | true => YU Zq X own id k sec = 0 ∧ K (.ret (.int .i64 0)) ⟨h.next + 1, (l, .flat ((endX Zq X own id k sec).c (.nslice ⟨h.next, 0, 70, 0, 0⟩ 70 X.L.length X.L.length))) :: (h.next, .rows 70 X.L.length (Z5 (endX Zq X own id k sec).L)) :: YP (YP h.bs l) b⟩
     | false => YU Zq X own id k sec ≠ 0 ∧ K (.ret (.int .i64 (YU Zq X own id k sec))) ⟨h.next, (l, .flat (X.c (.nslice ⟨b, 0, 70, 0, 0⟩ 70 X.L.length X.L.length))) :: (b, .rows 70 X.L.length (Z5 X.L)) :: YP (YP h.bs l) b⟩)
   | _, _ => False
  | _ => False
 | _ => False
theorem Zd0 (c : Bool) (args : List AV) (h : Z9) (K : KO) (hl : Zfk c args h K) : Zo PP 62 args h K := by
 unfold Zfk at hl
 split at hl
 ·split at hl
  ·refine Spec.fsumm hl fun Bs a hlen hK0 => ?_
   split at hK0
   ·rename_i cs n f own id k sec
    obtain ⟨X, ⟨rfl, rfl, rfl⟩, hI, hsec, hK⟩ := hK0
    have hlen : X.L.length < 1000 := hI.am.n
    cases c with
    | true =>
     obtain ⟨he, hK1⟩ := hK
     exact ⟨_, _, _, _, _, .evM Z80 (Zgn X _ _ own id k sec Zq Z2Q 1000 rfl hlen hI.add.cap hI.stage hI.ok hsec (V5 _) (by decide) he rfl), by simp, .ret _ _ rfl, .cons _ _ _ _ _ _ rfl (.flat _ _ rfl) (.cons _ _ _ _ _ _ rfl (.rows _ _ _ (fun _ _ => rfl)) .nil), hK1⟩
    | false =>
     obtain ⟨he, hK2⟩ := hK
     exact ⟨_, _, _, _, _, .evM Z80 (Zgm X _ own id k _ sec Zq Z2Q 1000 rfl hlen hI.add.cap hI.stage hI.ok hsec (V5 _) (by decide) rfl he), by simp, .ret _ _ rfl, .cons _ _ _ _ _ _ rfl (.flat _ _ rfl) (.cons _ _ _ _ _ _ rfl (.rows _ _ _ (fun _ _ => rfl)) .nil), hK2⟩
   ·exact hK0.elim
  ·exact hl.elim
 ·exact hl.elim
end Go.Tk
end
section
namespace Go.Tk
open IntKind (i64 u8 u32 u64 wrap)
noncomputable def Zd1 : Zg := G0.withP 51 neS
def ZhV : AV := .func (.func 96) [] [.ptr (some ⟨2, 0, 0, 0, 0⟩)]
def ZhW (X : Za) (L : List Z6) (n : Nat) (G Hd Lf : List Z6) : Z9 := ⟨6, [(0, .flat (X.c (.nslice ⟨1, 0, 70, 0, 0⟩ 70 n n))), (1, .rows 70 n (Z5 L)), (2, .flat [.ptr (some ⟨0, 0, 0, 103, 0⟩)]), (3, .rows 70 G.length (Z5 G)), (4, .rows 70 Hd.length (Z5 Hd)), (5, .rows 70 Lf.length (Z5 Lf))]⟩
def stS (X : Za) (L : List Z6) (m : Int) (n i : Nat) (G Hd Lf : List Z6) : St := ⟨87, [(30, .int .i64 i), (29, .int .i64 n), (28, .nslice ⟨1, 0, 70, 0, 0⟩ 70 n n), (1, .int .i64 m), (7, ZhV), (0, .ptr (some ⟨0, 0, 0, 0, 0⟩)), (5, .nslice ⟨3, 0, 70, 0, 0⟩ 70 G.length G.length), (4, .nslice ⟨4, 0, 70, 0, 0⟩ 70 Hd.length Hd.length), (8, .nslice ⟨5, 0, 70, 0, 0⟩ 70 Lf.length Lf.length)], ZhW X L n G Hd Lf, []⟩
def stE (X : Za) (L : List Z6) (m : Int) (n : Nat) (G Hd Lf : List Z6) : St := ⟨87, [(0, .ptr (some ⟨0, 0, 0, 0, 0⟩)), (5, .nslice ⟨2, 0, 70, 0, 0⟩ 70 G.length G.length), (4, .nslice ⟨3, 0, 70, 0, 0⟩ 70 Hd.length Hd.length), (8, .nslice ⟨4, 0, 70, 0, 0⟩ 70 Lf.length Lf.length)], ⟨5, [(0, .flat (X.c (.nslice ⟨1, 0, 70, 0, 0⟩ 70 n n))), (1, .rows 70 n (Z5 L)), (2, .rows 70 G.length (Z5 G)), (3, .rows 70 Hd.length (Z5 Hd)), (4, .rows 70 Lf.length (Z5 Lf))]⟩, []⟩
theorem Uo {s a b q : Int} (hs : s = 0 ∨ s = 1) (h1 : -1152921504606846976 ≤ a ∧ a ≤ 1152921504606846976) (h2 : -1152921504606846976 ≤ b ∧ b ≤ 1152921504606846976) (h3 : 0 ≤ q ∧ q ≤ 1152921504606846976) :
  ([a, b].set s.toNat (i64.wrap ([a, b].getD s.toNat 0 - q))).set (1 - s).toNat (i64.wrap (([a, b].set s.toNat (i64.wrap ([a, b].getD s.toNat 0 - q))).getD (1 - s).toNat 0 + q)) = if s = 0 then [a - q, b + q] else [a + q, b - q] := by
 rcases hs with rfl | rfl
 ·show [i64.wrap (a - q), i64.wrap (b + q)] = [a - q, b + q]
  rw [w64 (by omega), w64 (by omega)]
 ·show [i64.wrap (a + q), i64.wrap (b - q)] = [a + q, b - q]
  rw [w64 (by omega), w64 (by omega)]
theorem QE {side : Int} {p : Int × Int} {h : Z6} (hf : ¬ h.fin = 1) : XJ side p h = p := by unfold XJ; rw [if_neg hf]
theorem U0 {side a b : Int} {h : Z6} (hf : h.fin = 1) : [(XJ side (a, b) h).1, (XJ side (a, b) h).2] = if ZN side h.own = 0 then [a - h.amount, b + h.amount] else [a + h.amount, b - h.amount] := by
 unfold XJ
 rw [if_pos hf]
 split <;> rfl
theorem Z74 {o : Bool} {s m : Int} (hs : 1 ≤ s ∧ s ≤ 9) (h : ZR o s m = 10) : s = 9 := by unfold ZR at h; split at h <;> omega
theorem Zgo (X X1 : Za) (L : List Z6) (m : Int) (n i : Nat) (x : Z6) (G Hd Lf G1 Hd1 Lf1 : List Z6) (Z1 Z2 : Prop) (hn : n < 1000) (hL : L.length = n) (hi : i ≤ n) (hm : 1 ≤ m ∧ m ≤ 4) (hX : YG X) (hx : i < n → L.getD i Zc = x) (hst : i < n → 1 ≤ x.stage ∧ x.stage ≤ 9) (hb : G.length < 1000 ∧ Hd.length < 1000 ∧ Lf.length < 1000) (hG : i < n → G1 = G ++ YM (decide (ZR x.own x.stage m = 10)) (stH m x)) (hH : i < n → Hd1 = Hd ++ YM (decide (x.stage = 4 ∧ XZ x.own 4 = m)) (stH m x)) (hLf : i < n → Lf1 = Lf ++ YM (decide (¬ ZR x.own x.stage m = 10)) (stH m x)) (hX1 : i < n → X1 = if ZR x.own x.stage m = 10 then { X with a0 := (XJ X.side (X.a0, X.a1) (stH m x)).1, a1 := (XJ X.side (X.a0, X.a1) (stH m x)).2 } else X) (hw : i < n → ZR x.own x.stage m = 10 → x.fin = 1 → (-1152921504606846976 ≤ X.a0 ∧ X.a0 ≤ 1152921504606846976) ∧ (-1152921504606846976 ≤ X.a1 ∧ X.a1 ≤ 1152921504606846976) ∧ 0 ≤ x.amount ∧ x.amount ≤ 1152921504606846976) (hZ1 : i < n → Z1) (hZ2 : i = n → Z2) :
  ZI Zd1 20 15 1 2 (stS X L m n i G Hd Lf) (rdM 2 1 9 (stS X1 L m n (i + 1) G1 Hd1 Lf1) (stE X L m n G Hd Lf) (stE X L m n G Hd Lf) (stE X L m n G Hd Lf) Z1 Z2 False False) := by
 refine @Eq.mpr _ (let q1 := 0 + Int.toNat (↑i : Int);
 let q2 := List.getD L q1 Zc;
 let q3 := q2.stage;
 let q4 := q2.own;
 let q5 := ZR q4 q3 m;
 let q6 := decide (q4 = q4);
 let q7 := q2.id;
 let q8 := decide (q7 = q7);
 let q9 := q2.amount;
 let q10 := decide (q9 = q9);
 let q11 := q2.hash;
 let q12 := q11 = q11;
 let q13 := q2.expiry;
 let q14 := decide (q13 = q13);
 let q15 := decide (q5 = q5);
 let q16 := q2.fin;
 let q17 := decide (q16 = q16);
 let q18 := q2.secret;
 let q19 := q18 = q18;
 let q20 := q16 == 1;
 let q21 := X.side;
 let q22 := decide (0 ≤ q21 ∧ q21 < 2);
 let q23 := 0 + Int.toNat q21;
 let q24 := wrap i64 (1 - q21);
 let q25 := decide (0 ≤ q24 ∧ q24 < 2);
 let q26 := 0 + Int.toNat q24;
 let q27 := decide (q26 < 2);
 let q28 := [X.a0, X.a1];
 let q29 := List.set q28 q23 (wrap i64 (List.getD q28 q23 0 - q9));
 let q30 := List.length G;
 let q31 := decide (q30 = q30);
 let q32 := q30 + 1;
 let q33 := decide (q32 * 112 ≤ 140737488355328);
 let q34 := decide (wrap i64 ((↑i : Int) + 1) = (↑(i + 1) : Int));
 let q35 := decide ((↑n : Int) = (↑n : Int));
 let q36 := decide (n = n);
 let q37 := decide (n ≤ n);
 let q38 := decide (m = m);
 let q39 := List.length G1;
 let q40 := decide (q32 = q39);
 let q41 := decide (q39 ≤ q32);
 let q42 := List.length Hd;
 let q43 := List.length Hd1;
 let q44 := decide (q42 = q43);
 let q45 := decide (q43 ≤ q42);
 let q46 := List.length Lf;
 let q47 := List.length Lf1;
 let q48 := decide (q46 = q47);
 let q49 := decide (q47 ≤ q46);
 let q50 := X.t;
 let q51 := q50.fund;
 let q52 := X1.t;
 let q53 := q51 = q52.fund;
 let q54 := q50.index;
 let q55 := decide (q54 = q52.index);
 let q56 := q50.cap;
 let q57 := decide (q56 = q52.cap);
 let q58 := q50.dust;
 let q59 := decide (q58 = q52.dust);
 let q60 := q50.fee;
 let q61 := decide (q60 = q52.fee);
 let q62 := q50.delay;
 let q63 := decide (q62 = q52.delay);
 let q64 := q50.k0;
 let q65 := q64 = q52.k0;
 let q66 := q50.k1;
 let q67 := q66 = q52.k1;
 let q68 := decide (q21 = X1.side);
 let q69 := X.res;
 let q70 := decide (q69 = X1.res);
 let q71 := [X1.a0, X1.a1];
 let q72 := [X.i0, X.i1];
 let q73 := q72 = [X1.i0, X1.i1];
 let q74 := [(2, 2)];
 let q75 := (5, 5) :: (4, 4) :: (3, 9) :: q74;
 let q76 := Z5 L;
 let q77 := Z5 G1;
 let q78 := Z5 G;
 let q79 := YD [AV.bool q4, AV.int i64 q7, AV.int i64 q9, AV.arr u8 32 q11, AV.int i64 q13, AV.int i64 q5, AV.int i64 q16, AV.arr u8 32 q18] 0 70;
 let q80 := Z5 Hd1;
 let q81 := Z5 Hd;
 let q82 := Z5 Lf1;
 let q83 := Z5 Lf;
 let q84 := q73 ∧ Z0 q36 (Z0 q37 (Z0 q36 (Z8 2 q75 n q76 q76 ∧ Z0 q40 (Z8 2 q75 q39 q77 (ZV q30 q78 q79) ∧ Z0 q44 (Z8 2 q75 q43 q80 q81 ∧ Z0 q48 (Z8 2 q75 q47 q82 q83 ∧ Z1) False) False) False) False) False) False;
 let q85 := q28 = q71;
 let q86 := Z0 q31 (Z0 q33 (Z0 q34 (Z0 q35 (Z0 q36 (Z0 q37 (Z0 q38 (Z0 q40 (Z0 q41 (Z0 q44 (Z0 q45 (Z0 q48 (Z0 q49 (q53 ∧ Z0 q55 (Z0 q57 (Z0 q59 (Z0 q61 (Z0 q63 (q65 ∧ q67 ∧ Z0 q68 (Z0 q70 (q85 ∧ q84) False) False) False) False) False) False) False) False) False) False) False) False) False) False) False) False) False) False) False) False;
 let q87 := wrap i64 (1 - q24);
 let q88 := decide (0 ≤ q87 ∧ q87 < 2);
 let q89 := 0 + Int.toNat q87;
 let q90 := List.set q28 q26 (wrap i64 (List.getD q28 q26 0 - q9));
 let q91 := decide (q42 = q42);
 let q92 := q42 + 1;
 let q93 := decide (q46 = q46);
 let q94 := q46 + 1;
 let q95 := decide (q94 * 112 ≤ 140737488355328);
 let q96 := decide (q30 = q39);
 let q97 := decide (q39 ≤ q30);
 let q98 := decide (q92 = q43);
 let q99 := decide (q94 = q47);
 let q100 := decide (q47 ≤ q94);
 let q101 := (3, 3) :: q74;
 let q102 := (5, 10) :: (4, 8) :: q101;
 let q103 := ZV q46 q83 q79;
 let q104 := (5, 8) :: (4, 4) :: q101;
 let q105 := Z0 q93 (Z0 q95 (Z0 q34 (Z0 q35 (Z0 q36 (Z0 q37 (Z0 q38 (Z0 q96 (Z0 q97 (Z0 q44 (Z0 q45 (Z0 q99 (Z0 q100 (q53 ∧ Z0 q55 (Z0 q57 (Z0 q59 (Z0 q61 (Z0 q63 (q65 ∧ q67 ∧ Z0 q68 (Z0 q70 (q85 ∧ q73 ∧ Z0 q36 (Z0 q37 (Z0 q36 (Z8 2 q104 n q76 q76 ∧ Z0 q96 (Z8 2 q104 q39 q77 q78 ∧ Z0 q44 (Z8 2 q104 q43 q80 q81 ∧ Z0 q99 (Z8 2 q104 q47 q82 q103 ∧ Z1) False) False) False) False) False) False) False) False) False) False) False) False) False) False) False) False) False) False) False) False) False) False) False) False) False) False;
 let q106 := [(4, 5), (3, 4), (2, 3)];
 Z0 (decide ((↑i : Int) < (↑n : Int)))
 (Z0 (decide (0 ≤ (↑i : Int) ∧ (↑i : Int) < (↑n : Int)))
 (Z0 (decide (q1 < n))
 (Z0 (decide ((1 ≤ q3 ∧ q3 ≤ 9) ∧ 1 ≤ m ∧ m ≤ 4))
 (Z0 (q5 == 10)
 (Z0 q4 (Z0 q6 (Z0 q8 (Z0 q10 (q12 ∧ Z0 q14 (Z0 q15 (Z0 q17 (q19 ∧ Z0 q20 (Z0 q22 (Z0 (decide (q23 < 2)) (Z0 q22 (Z0 (decide (i64 = i64 ∧ q23 < 2 ∧ q23 < 2)) (Z0 q25 (Z0 q27 (Z0 q25 (Z0 (decide (i64 = i64 ∧ q26 < 2 ∧ q26 < List.length q29)) (Z0 q31 (Z0 q33 (Z0 q34 (Z0 q35 (Z0 q36 (Z0 q37 (Z0 q38 (Z0 q40 (Z0 q41 (Z0 q44 (Z0 q45 (Z0 q48 (Z0 q49 (q53 ∧ Z0 q55 (Z0 q57 (Z0 q59 (Z0 q61 (Z0 q63 (q65 ∧ q67 ∧ Z0 q68 (Z0 q70 (List.set q29 q26 (wrap i64 (List.getD q29 q26 0 + q9)) = q71 ∧ q84) False) False) False) False) False) False) False) False) False) False) False) False) False) False) False) False) False) False) False) False) False) False) False) False) False) False) False) False) q86) False) False) False) False) False) False)
 (Z0 q6 (Z0 q8 (Z0 q10 (q12 ∧ Z0 q14 (Z0 q15 (Z0 q17 (q19 ∧ Z0 q20 (Z0 q25 (Z0 q27 (Z0 q25 (Z0 (decide (i64 = i64 ∧ q26 < 2 ∧ q26 < 2)) (Z0 q88 (Z0 (decide (q89 < 2)) (Z0 q88 (Z0 (decide (i64 = i64 ∧ q89 < 2 ∧ q89 < List.length q90)) (Z0 q31 (Z0 q33 (Z0 q34 (Z0 q35 (Z0 q36 (Z0 q37 (Z0 q38 (Z0 q40 (Z0 q41 (Z0 q44 (Z0 q45 (Z0 q48 (Z0 q49 (q53 ∧ Z0 q55 (Z0 q57 (Z0 q59 (Z0 q61 (Z0 q63 (q65 ∧ q67 ∧ Z0 q68 (Z0 q70 (List.set q90 q89 (wrap i64 (List.getD q90 q89 0 + q9)) = q71 ∧ q84) False) False) False) False) False) False) False) False) False) False) False) False) False) False) False) False) False) False) False) False) False) False) False) False) False) False) False) False) q86) False) False) False) False) False) False))
 (Z0 (decide (XZ q4 q3 = m)) (Z0 (q5 == 5) (Z0 q91 (Z0 (decide (q92 * 112 ≤ 140737488355328)) (Z0 q93 (Z0 q95 (Z0 q34 (Z0 q35 (Z0 q36 (Z0 q37 (Z0 q38 (Z0 q96 (Z0 q97 (Z0 q98 (Z0 (decide (q43 ≤ q92)) (Z0 q99 (Z0 q100 (q53 ∧ Z0 q55 (Z0 q57 (Z0 q59 (Z0 q61 (Z0 q63 (q65 ∧ q67 ∧ Z0 q68 (Z0 q70 (q85 ∧ q73 ∧ Z0 q36 (Z0 q37 (Z0 q36 (Z8 2 q102 n q76 q76 ∧ Z0 q96 (Z8 2 q102 q39 q77 q78 ∧ Z0 q98 (Z8 2 q102 q43 q80 (ZV q42 q81 q79) ∧ Z0 q99 (Z8 2 q102 q47 q82 q103 ∧ Z1) False) False) False) False) False) False) False) False) False) False) False) False) False) False) False) False) False) False) False) False) False) False) False) False) False) False) False) False) q105) q105))
 False)
 False)
 False)
 (Z0 q31 (Z0 (decide (q30 ≤ q30)) (Z0 q91 (Z0 (decide (q42 ≤ q42)) (Z0 q93 (Z0 (decide (q46 ≤ q46)) (q51 = q51 ∧ Z0 (decide (q54 = q54)) (Z0 (decide (q56 = q56)) (Z0 (decide (q58 = q58)) (Z0 (decide (q60 = q60)) (Z0 (decide (q62 = q62)) (q64 = q64 ∧ q66 = q66 ∧ Z0 (decide (q21 = q21)) (Z0 (decide (q69 = q69)) (q28 = q28 ∧ q72 = q72 ∧ Z0 q36 (Z0 q37 (Z0 q36 (Z8 2 q106 n q76 q76 ∧ Z0 q31 (Z8 2 q106 q30 q78 q78 ∧ Z0 q91 (Z8 2 q106 q42 q81 q81 ∧ Z0 q93 (Z8 2 q106 q46 q83 q83 ∧ Z2) False) False) False) False) False) False) False) False) False) False) False) False) False) False) False) False) False) False) False)) (by kernel_rfl) ?_
 conv => zeta
 try simp only [Zi]
 try simp only [Zj]
 try simp only [Zk]
 try simp only [Zl]
 try simp only [Zm]
 try simp only [Zh]
 try simp only [Int.toNat_natCast, Nat.zero_add, true_and, and_true, Nat.le_refl]
 refine ⟨fun hc => ?_, fun hc => ?_⟩
 ·have hlt : i < n := by omega
  rw [hx hlt]
  have hG := hG hlt
  have hH := hH hlt
  have hLf := hLf hlt
  have hX1 := hX1 hlt
  have hst := hst hlt
  have hw := hw hlt
  have hwr : i64.wrap ((i : Int) + 1) = ((i + 1 : Nat) : Int) := by rw [w64 (by omega)]; omega
  rw [hwr]
  refine ⟨by omega, hlt, ⟨hst, hm⟩, fun h10 => ?_, fun h10 => ?_⟩
  ·have h10 : ZR x.own x.stage m = 10 := by simpa using h10
   have h9 := Z74 hst h10
   rw [decide_eq_true h10] at hG
   rw [decide_eq_false (by omega)] at hH
   rw [decide_eq_false (by simp [h10])] at hLf
   rw [if_pos h10] at hX1
   simp only [YM, List.append_nil] at hG hH hLf
   subst hG hH hLf hX1
   obtain ⟨s1, s2⟩ := hX
   have hwf : i64.wrap (1 - X.side) = 1 - X.side := w64 (by omega)
   have hwg : i64.wrap (1 - (1 - X.side)) = X.side := by rw [w64 (by omega)]; omega
   rw [hwf]
   try rw [hwg]
   have hRG : ∀ τ, Z8 2 τ (G ++ [stH m x]).length (Z5 (G ++ [stH m x])) (ZV G.length (Z5 G) (YD (stH m x).c 0 70)) := fun τ => Zn fun j hj => Ym rfl (fun _ _ => rfl) (by simpa using hj)
   have hR : ∀ τ k (Q : List Z6), Z8 2 τ k (Z5 Q) (Z5 Q) := fun τ k Q => Zn fun _ _ => rfl
   refine ⟨fun ho => ⟨fun hf => ?_, fun hf => ?_⟩, fun ho => ⟨fun hf => ?_, fun hf => ?_⟩⟩
   all_goals repeat' apply And.intro
   all_goals first | omega | rfl | exact hZ1 hlt | exact hRG _ | exact hR _ _ _ | (simp; done) | (simp only [List.length_set, List.length_cons, List.length_nil, List.length_append]; omega) | skip
   ·have hf : x.fin = 1 := by simpa using hf
    obtain ⟨b1, b2, b3⟩ := hw h10 hf
    show _ = [(XJ X.side (X.a0, X.a1) (stH m x)).1, (XJ X.side (X.a0, X.a1) (stH m x)).2]
    rw [U0 (h := stH m x) hf, Uo (by omega) b1 b2 b3]
    show _ = if ZN X.side x.own = 0 then _ else _
    rw [ho]; rfl
   ·have hf : ¬ x.fin = 1 := by simpa using hf
    show _ = [(XJ X.side (X.a0, X.a1) (stH m x)).1, (XJ X.side (X.a0, X.a1) (stH m x)).2]
    rw [QE (h := stH m x) hf]
   ·have hf : x.fin = 1 := by simpa using hf
    obtain ⟨b1, b2, b3⟩ := hw h10 hf
    show _ = [(XJ X.side (X.a0, X.a1) (stH m x)).1, (XJ X.side (X.a0, X.a1) (stH m x)).2]
    have e := Uo (s := 1 - X.side) (by omega) b1 b2 b3
    rw [show 1 - (1 - X.side) = X.side by omega] at e
    rw [U0 (h := stH m x) hf, e]
    show _ = if ZN X.side x.own = 0 then _ else _
    rw [ho]; rfl
   ·have hf : ¬ x.fin = 1 := by simpa using hf
    show _ = [(XJ X.side (X.a0, X.a1) (stH m x)).1, (XJ X.side (X.a0, X.a1) (stH m x)).2]
    rw [QE (h := stH m x) hf]
  ·have h10 : ¬ ZR x.own x.stage m = 10 := by simpa using h10
   rw [decide_eq_false h10] at hG
   rw [decide_eq_true h10] at hLf
   rw [if_neg h10] at hX1
   simp only [YM, List.append_nil] at hG hLf
   subst hG hLf hX1
   have hRL : ∀ τ, Z8 2 τ (Lf ++ [stH m x]).length (Z5 (Lf ++ [stH m x])) (ZV Lf.length (Z5 Lf) (YD (stH m x).c 0 70)) := fun τ => Zn fun j hj => Ym rfl (fun _ _ => rfl) (by simpa using hj)
   have hR : ∀ τ k (Q : List Z6), Z8 2 τ k (Z5 Q) (Z5 Q) := fun τ k Q => Zn fun _ _ => rfl
   refine ⟨fun ho => ⟨fun h5 => ?_, fun h5 => ?_⟩, fun ho => ?_⟩
   ·have ho : XZ x.own x.stage = m := ho
    have h5 : ZR x.own x.stage m = 5 := by simpa using h5
    have h4 : x.stage = 4 := by unfold ZR at h5; rw [if_pos ho] at h5; omega
    rw [decide_eq_true ⟨h4, by rw [← h4]; exact ho⟩] at hH
    simp only [YM] at hH
    subst hH
    have hRH : ∀ τ, Z8 2 τ (Hd ++ [stH m x]).length (Z5 (Hd ++ [stH m x])) (ZV Hd.length (Z5 Hd) (YD (stH m x).c 0 70)) := fun τ => Zn fun j hj => Ym rfl (fun _ _ => rfl) (by simpa using hj)
    repeat' apply And.intro
    all_goals first | omega | rfl | exact hZ1 hlt | exact hRL _ | exact hRH _ | exact hR _ _ _ | (simp; done)
   all_goals
    have hH' : Hd1 = Hd := by
     rw [hH, decide_eq_false]
     ·simp [YM]
     ·intro hq
      simp [ZR, hq.1, hq.2] at *
    subst hH'
    repeat' apply And.intro
    all_goals first | omega | rfl | exact hZ1 hlt | exact hRL _ | exact hR _ _ _ | (simp; done)
 ·repeat' apply And.intro
  all_goals first | omega | rfl | exact hZ2 (by omega) | exact Zn fun _ _ => rfl
end Go.Tk
end
section
namespace Go.Tk
open IntKind (i64 u8 u32 u64 wrap)
def ZD (side s : Int) (L : List Z6) : Int := (Xv (ZO side s L)).sum
def Yk (side s : Int) (L : List Z6) : Nat := (ZO side s L).length
def Uv (side s : Int) (h : Z6) : Int := if ZN side h.own = s then h.amount else 0
def U1 (side s : Int) (h : Z6) : Nat := if ZN side h.own = s then 1 else 0
theorem Z3z {side : Int} (hs : side = 0 ∨ side = 1) (own : Bool) : ZN side own = 0 ∨ ZN side own = 1 := by
 unfold ZN; rcases hs with rfl | rfl <;> cases own <;> simp
theorem ZJ (side s : Int) (x : Z6) (r : List Z6) : ZD side s (x :: r) = Uv side s x + ZD side s r := by
 unfold ZD Uv ZO Xv
 rw [List.filter_cons]
 by_cases h : ZN side x.own = s <;> simp [h]
theorem Y0 (side s : Int) (x : Z6) (r : List Z6) : Yk side s (x :: r) = U1 side s x + Yk side s r := by
 unfold Yk U1 ZO
 rw [List.filter_cons]
 by_cases h : ZN side x.own = s <;> simp [h] <;> omega
theorem Xa (X : Za) (s : Int) : Ya X s = X.am s - ZD X.side s X.L - X.res - (if s = 0 then X.t.fee else 0) := rfl
theorem Vp {side s : Int} {L : List Z6} : ZO side s L = [] ↔ Yk side s L = 0 := by
 unfold Yk; exact List.length_eq_zero_iff.symm
theorem Z2u (side s : Int) (h : Z6) : ∀ L, ZD side s (X8 h L) = ZD side s L + Uv side s h
 | [] => by unfold X8; rw [ZJ]; omega
 | x :: r => by
  unfold X8
  split
  ·rw [ZJ]; omega
  ·rw [ZJ, ZJ, Z2u side s h r]; omega
theorem Z2v (side s : Int) (h : Z6) : ∀ L, Yk side s (X8 h L) = Yk side s L + U1 side s h
 | [] => by unfold X8; rw [Y0]; omega
 | x :: r => by
  unfold X8
  split
  ·rw [Y0]; omega
  ·rw [Y0, Y0, Z2v side s h r]; omega
theorem Z5D {h : Z6} : ∀ {L : List Z6}, L.Pairwise Xh → (∀ x ∈ L, x.own = h.own → x.id < h.id ∧ min h.stage 5 ≤ min x.stage 5) → (X8 h L).Pairwise Xh
 | [], _, _ => by simp [X8]
 | x :: r, hp, hx => by
  obtain ⟨h1, h2⟩ := List.pairwise_cons.1 hp
  unfold X8
  split
  ·rename_i hc
   refine List.pairwise_cons.2 ⟨fun y hy => ?_, hp⟩
   rcases List.mem_cons.1 hy with rfl | hy
   ·exact .inl ⟨hc.1, hc.2⟩
   ·have := h1 y hy
    unfold Xh at this
    rcases this with ⟨q, _⟩ | ⟨q, _⟩
    ·rw [hc.2] at q; cases q
    ·exact .inl ⟨hc.1, by rw [← q]; exact hc.2⟩
  ·rename_i hc
   refine List.pairwise_cons.2 ⟨fun y hy => ?_, Z5D h2 fun z hz => hx z (by simp [hz])⟩
   rcases QD.1 hy with hy | rfl
   ·exact h1 y hy
   ·have := hx x (by simp)
    unfold Xh
    cases hxo : x.own <;> cases hyo : y.own <;> simp_all
theorem Zd2 (X : Za) (own o : Bool) (d : Int) : (Xm X own d).nx o = X.nx o + (if own = o then d else 0) := by
 cases own <;> cases o <;> simp [Xm, Za.nx]
theorem Zfl (X : Za) (own : Bool) (d s : Int) : (Xm X own d).am s = X.am s := by cases own <;> rfl
theorem Z81 {h : Z6} (hp : Yj h = true) : (0 ≤ h.id ∧ h.id ≤ 2147483647) ∧ (1 ≤ h.amount ∧ h.amount ≤ 1125899906842624) ∧ 1 ≤ h.expiry ∧ h.expiry ≤ 2147483647 := by
 unfold Yj at hp
 simp only [Bool.and_eq_true, decide_eq_true_eq] at hp
 exact ⟨hp.1.1, hp.1.2, hp.2⟩
theorem Vc {H : List Int → List Int} {X : Za} {h : Z6} (h1 : Yj h = true) (h2 : h.id < X.nx h.own) (h3 : 1 ≤ h.stage ∧ h.stage ≤ 9) (h4 : Z2m H h = true) : XH H X h = true := by
 unfold XH
 rw [h1, h4, decide_eq_true h2, decide_eq_true h3]; rfl
theorem XR : Bytes Zd := ⟨fun i => by
 have : Zd.getD i 0 = 0 := by
  show (List.replicate 32 (0 : Int)).getD i 0 = 0
  rw [List.getD_eq_getElem?_getD, List.getElem?_replicate]; split <;> rfl
 rw [this]; omega⟩
theorem Za.Inv.addX {H : List Int → List Int} {X : Za} (h : X.Inv H) {own : Bool} {id am ex : Int} {hash : List Int} (hh : hash.length = 32) (hb : Bytes hash) : (addX X own id am hash ex).Inv H := by
 unfold Go.Tk.addX
 split
 case isFalse => exact h
 rename_i he
 obtain ⟨hp, hid, hn, ha⟩ := Z0a he
 have hpi := Z81 hp
 have hpi1 : (0 ≤ id ∧ id ≤ 2147483647) ∧ (1 ≤ am ∧ am ≤ 1125899906842624) := ⟨hpi.1, hpi.2.1⟩
 have hamif : ∀ s, Uv X.side s (YV X own id am hash ex) = if ZN X.side own = s then am else 0 := fun s => rfl
 have honeif : ∀ s, U1 X.side s (YV X own id am hash ex) = if ZN X.side own = s then 1 else 0 := fun s => rfl
 generalize hq : YV X own id am hash ex = q at *
 have hqo : q.own = own := by rw [← hq]; rfl
 have hqi : q.id = id := by rw [← hq]; rfl
 have hqs : q.stage = 1 := by rw [← hq]; rfl
 have hqf : Z2m H q = true := by rw [← hq]; simp [Z2m, YV]
 have hqk : q.Ok := by rw [← hq]; exact ⟨hh, hb, rfl, XR⟩
 have e1 : ∀ (d : Int), (Xm X own d).side = X.side := fun d => by cases own <;> rfl
 have hov : ∀ s, Ya { Xm X own 1 with L := X8 q X.L } s = Ya X s - (if ZN X.side own = s then am else 0) := fun s => by
  have : Ya { Xm X own 1 with L := X8 q X.L } s = (Xm X own 1).am s - ZD (Xm X own 1).side s (X8 q X.L) - (Xm X own 1).res - (if s = 0 then (Xm X own 1).t.fee else 0) := rfl
  rw [this, e1, Zfl, Z2u, hamif, Xa]
  have e2 : (Xm X own 1).res = X.res := by cases own <;> rfl
  have e3 : (Xm X own 1).t = X.t := by cases own <;> rfl
  rw [e2, e3]; omega
 have hlen : ∀ s, (ZO (Xm X own 1).side s (X8 q X.L)).length = (ZO X.side s X.L).length + if ZN X.side own = s then 1 else 0 := fun s => by
  have := Z2v X.side s q X.L
  rw [honeif] at this
  rw [e1]; exact this
 have hnx : ∀ o, ({ Xm X own 1 with L := X8 q X.L } : Za).nx o = X.nx o + (if own = o then 1 else 0) := fun o => Zd2 X own o 1
 have hf := ZN X.side own
 refine ⟨?_, ?_, ?_, ?_, ?_, ?_, ?_, ?_, ?_, ?_, ?_, ?_, ?_, ?_, ?_⟩
 ·cases own <;> exact h.tok
 ·cases own <;> exact h.tb
 ·show (Xm X own 1).side = 0 ∨ _; rw [e1]; exact h.side
 ·cases own <;> exact h.res
 ·cases own <;> exact h.a0
 ·cases own <;> exact h.a1
 ·have := h.i0
  cases own
  ·exact this
  ·have : id = X.i0 := hid
   show 0 ≤ X.i0 + 1 ∧ X.i0 + 1 ≤ _; omega
 ·have := h.i1
  cases own
  ·have : id = X.i1 := hid
   show 0 ≤ X.i1 + 1 ∧ X.i1 + 1 ≤ _; omega
  ·exact this
 ·have := h.n0
  show (ZO (Xm X own 1).side 0 (X8 q X.L)).length ≤ 8
  rw [hlen]; split
  ·rename_i e; rw [e] at hn; omega
  ·omega
 ·have := h.n1
  show (ZO (Xm X own 1).side 1 (X8 q X.L)).length ≤ 8
  rw [hlen]; split
  ·rename_i e; rw [e] at hn; omega
  ·omega
 ·intro x hx
  rcases QD.1 hx with hx | rfl
  ·obtain ⟨u1, u2, u3, u4⟩ := YN (h.und x hx)
   refine Vc u1 ?_ u3 u4
   rw [hnx]; split <;> omega
  ·refine Vc hp ?_ (by rw [hqs]; omega) hqf
   rw [hnx, hqo, if_pos rfl, hqi, hid]; omega
 ·refine Z5D h.fol fun x hx ho => ?_
  obtain ⟨u1, u2, u3, u4⟩ := YN (h.und x hx)
  rw [ho, hqo] at u2
  rw [hqi, hqs, hid]; omega
 ·have := h.ov0
  rw [hov]; split
  ·rename_i e; rw [e] at ha; omega
  ·omega
 ·rcases h.ov1 with h1 | h1
  ·by_cases e : ZN X.side own = 1
   ·right
    rw [hov, if_pos e]; rw [e] at ha; omega
   ·left
    show ZO (Xm X own 1).side 1 (X8 q X.L) = []
    refine List.eq_nil_of_length_eq_zero ?_
    rw [hlen, h1, if_neg e]; rfl
  ·right
   rw [hov]; split
   ·rename_i e; rw [e] at ha; omega
   ·omega
 ·intro x hx
  rcases QD.1 hx with hx | rfl
  ·exact h.ok x hx
  ·exact hqk
def WP (h : Z6) : Bool × Int × Int × Int := (h.own, h.id, h.amount, min h.stage 5)
theorem Z5E {a b c d : Z6} (h1 : WP a = WP c) (h2 : WP b = WP d) (h : Xh a b) : Xh c d := by
 unfold WP at h1 h2
 simp only [Prod.mk.injEq] at h1 h2
 unfold Xh at *
 rw [← h1.1, ← h2.1, ← h1.2.1, ← h2.2.1, ← h1.2.2.2, ← h2.2.2.2]; exact h
theorem Z5F {side s : Int} : ∀ {L M : List Z6}, L.map WP = M.map WP → ZD side s L = ZD side s M ∧ Yk side s L = Yk side s M
 | [], [], _ => ⟨rfl, rfl⟩
 | [], y :: q, h => by simp at h
 | x :: r, [], h => by simp at h
 | x :: r, y :: q, h => by
  simp only [List.map_cons, List.cons.injEq] at h
  obtain ⟨i1, i2⟩ := Z5F (side := side) (s := s) h.2
  have hk := h.1
  unfold WP at hk
  simp only [Prod.mk.injEq] at hk
  rw [ZJ, ZJ, Y0, Y0, i1, i2]
  unfold Uv U1
  rw [hk.1, hk.2.2.1]; exact ⟨rfl, rfl⟩
theorem Z82 : ∀ {L M : List Z6}, L.map WP = M.map WP → L.Pairwise Xh → M.Pairwise Xh
 | [], [], _, _ => .nil
 | [], y :: q, h, _ => by simp at h
 | x :: r, [], h, _ => by simp at h
 | x :: r, y :: q, h, hp => by
  simp only [List.map_cons, List.cons.injEq] at h
  obtain ⟨h1, h2⟩ := List.pairwise_cons.1 hp
  refine List.pairwise_cons.2 ⟨fun z hz => ?_, Z82 h.2 h2⟩
  have : WP z ∈ r.map WP := by rw [h.2]; exact List.mem_map_of_mem hz
  obtain ⟨w, hw, e⟩ := List.mem_map.1 this
  exact Z5E h.1 e (h1 w hw)
theorem Zd3 {L : List Z6} {I : Nat} {q : Z6} (hI : I < L.length) (hk : WP q = WP (L.getD I Zc)) : (L.set I q).map WP = L.map WP := by
 rw [List.map_set, hk, List.getD_eq_getElem?_getD, List.getElem?_eq_getElem hI]
 apply List.ext_getElem?
 intro i
 rw [List.getElem?_set]
 split
 ·rename_i e; subst e
  rw [if_pos (by simpa using hI)]; simp [hI]
 ·rfl
theorem Z3A {H : List Int → List Int} {X : Za} {own : Bool} {id k : Int} {sec : List Int} (he : YU H X own id k sec = 0) : ZM own id X.L < X.L.length ∧ (X.L.getD (ZM own id X.L) Zc).stage = 5 ∧ (k = 1 → H sec = (X.L.getD (ZM own id X.L) Zc).hash) := by
 unfold YU at he
 split at he
 ·cases he
 ·split at he
  ·cases he
  ·split at he
   ·cases he
   ·rename_i q1 q2 q3
    refine ⟨by omega, by simpa using q2, fun hk => ?_⟩
    exact Classical.byContradiction fun hq => q3 ⟨hk, hq⟩
theorem Za.Inv.endX {H : List Int → List Int} {X : Za} (h : X.Inv H) {own : Bool} {id k : Int} {sec : List Int} (hs : sec.length = 32) (hb : Bytes sec) (hk : k = 1 ∨ (k = 2 ∧ sec = Zd)) : (endX H X own id k sec).Inv H := by
 unfold Go.Tk.endX
 split
 case isFalse => exact h
 rename_i he
 obtain ⟨hI, h5, hsec⟩ := Z3A he
 generalize ZM own id X.L = I at *
 have hx := ZK hI
 obtain ⟨u1, u2, u3, u4⟩ := YN (h.und _ hx)
 generalize hz : X.L.getD I Zc = z at *
 have hkey : WP (Vx z k sec) = WP (X.L.getD I Zc) := by
  rw [hz]
  unfold WP Vx
  rw [h5]; rfl
 have hm := Zd3 hI hkey
 have hsum := fun s => Z5F (side := X.side) (s := s) hm
 have hov : ∀ s, Ya { X with L := X.L.set I (Vx z k sec) } s = Ya X s := fun s => by
  have : Ya { X with L := X.L.set I (Vx z k sec) } s = X.am s - ZD X.side s (X.L.set I (Vx z k sec)) - X.res - (if s = 0 then X.t.fee else 0) := rfl
  rw [this, (hsum s).1, Xa]
 have hmem : ∀ x ∈ X.L.set I (Vx z k sec), x ∈ X.L ∨ x = Vx z k sec := fun x hx => List.mem_or_eq_of_mem_set hx
 refine ⟨h.tok, h.tb, h.side, h.res, h.a0, h.a1, h.i0, h.i1, ?_, ?_, ?_, Z82 hm.symm h.fol, ?_, ?_, ?_⟩
 ·have := (hsum 0).2
  unfold Yk at this
  rw [this]; exact h.n0
 ·have := (hsum 1).2
  unfold Yk at this
  rw [this]; exact h.n1
 ·intro x hx
  rcases hmem x hx with hx | rfl
  ·obtain ⟨u1, u2, u3, u4⟩ := YN (h.und x hx)
   exact Vc u1 u2 u3 u4
  ·refine Vc u1 u2 (show 1 ≤ (6 : Int) ∧ (6 : Int) ≤ 9 by omega) ?_
   unfold Z2m Vx
   rcases hk with rfl | ⟨rfl, rfl⟩
   ·simp [hsec rfl]
   ·simp
 ·rw [hov]; exact h.ov0
 ·rcases h.ov1 with h1 | h1
  ·left
   rw [Vp] at h1 ⊢
   show Yk X.side 1 (X.L.set I (Vx z k sec)) = 0
   rw [(hsum 1).2, h1]
  ·right; rw [hov]; exact h1
 ·intro x hx
  rcases hmem x hx with hx | rfl
  ·exact h.ok x hx
  ·have := h.ok z (by rw [← hz]; exact ZK hI)
   exact ⟨this.hash, this.hb, hs, hb⟩
end Go.Tk
end
section
namespace Go.Tk
open IntKind (i64 u8 u32 u64 wrap)
theorem Z0t (m : Int) (x : Z6) (r : List Z6) : Yc m (x :: r) = if ZR x.own x.stage m = 10 then Yc m r else stH m x :: Yc m r := by
 unfold Yc
 rw [List.map_cons, List.filter_cons]
 by_cases h : ZR x.own x.stage m = 10 <;> simp [h, stH]
theorem Z0u (m : Int) (x : Z6) (r : List Z6) : ZP m (x :: r) = if ZR x.own x.stage m = 10 then stH m x :: ZP m r else ZP m r := by
 unfold ZP
 rw [List.map_cons, List.filter_cons]
 by_cases h : ZR x.own x.stage m = 10 <;> simp [h, stH]
theorem Z4x (m side s : Int) : ∀ L, ZD side s L = ZD side s (Yc m L) + ZD side s (ZP m L)
 | [] => rfl
 | x :: r => by
  have ih := Z4x m side s r
  have e : Uv side s (stH m x) = Uv side s x := rfl
  rw [Z0t, Z0u, ZJ]
  split
  ·rw [ZJ, e]; omega
  ·rw [ZJ, e]; omega
theorem Z16 (m side s : Int) : ∀ L, Yk side s L = Yk side s (Yc m L) + Yk side s (ZP m L)
 | [] => rfl
 | x :: r => by
  have ih := Z16 m side s r
  have e : U1 side s (stH m x) = U1 side s x := rfl
  rw [Z0t, Z0u, Y0]
  split
  ·rw [Y0, e]; omega
  ·rw [Y0, e]; omega
def Wv (G : List Z6) : List Z6 := G.filter fun h => decide (h.fin = 1)
theorem U2 {side : Int} (hs : side = 0 ∨ side = 1) : ∀ (G : List Z6) (a b : Int), G.foldl (XJ side) (a, b) = (a - ZD side 0 (Wv G) + ZD side 1 (Wv G), b + ZD side 0 (Wv G) - ZD side 1 (Wv G))
 | [], a, b => by simp [Wv, ZD, ZO, Xv]
 | x :: r, a, b => by
  rw [List.foldl_cons]
  by_cases hf : x.fin = 1
  ·have e : Wv (x :: r) = x :: Wv r := by unfold Wv; rw [List.filter_cons, decide_eq_true hf]; rfl
   rw [e, ZJ, ZJ]
   have hfr : (ZN side x.own = 0 ∧ ¬ ZN side x.own = 1) ∨ (¬ ZN side x.own = 0 ∧ ZN side x.own = 1) := by
    unfold ZN
    rcases hs with rfl | rfl <;> cases x.own <;> simp
   unfold Uv
   rcases hfr with ⟨h1, h2⟩ | ⟨h1, h2⟩
   ·have hm : XJ side (a, b) x = (a - x.amount, b + x.amount) := by unfold XJ; rw [if_pos hf, if_pos h1]
    rw [hm, U2 hs r, if_pos h1, if_neg h2]
    simp only [Prod.mk.injEq]; constructor <;> omega
   ·have hm : XJ side (a, b) x = (a + x.amount, b - x.amount) := by unfold XJ; rw [if_pos hf, if_neg h1]
    rw [hm, U2 hs r, if_neg h1, if_pos h2]
    simp only [Prod.mk.injEq]; constructor <;> omega
  ·have e : Wv (x :: r) = Wv r := by unfold Wv; rw [List.filter_cons, decide_eq_false hf]; rfl
   rw [e, XJ, if_neg hf, U2 hs r]
theorem QF {side s : Int} : ∀ {G : List Z6}, (∀ h ∈ G, 0 ≤ h.amount) → 0 ≤ ZD side s (Wv G) ∧ ZD side s (Wv G) ≤ ZD side s G
 | [], _ => by simp [Wv, ZD, ZO, Xv]
 | x :: r, h => by
  obtain ⟨i1, i2⟩ := QF (side := side) (s := s) (G := r) fun z hz => h z (by simp [hz])
  have hx := h x (by simp)
  have ha : 0 ≤ Uv side s x := by unfold Uv; split <;> omega
  rw [ZJ]
  unfold Wv at *
  rw [List.filter_cons]
  split
  ·rw [ZJ]; omega
  ·omega
theorem Xb {side s : Int} : ∀ {G : List Z6}, (∀ h ∈ G, 0 ≤ h.amount) → 0 ≤ ZD side s G
 | [], _ => by simp [ZD, ZO, Xv]
 | x :: r, h => by
  have i1 := Xb (side := side) (s := s) (G := r) fun z hz => h z (by simp [hz])
  have hx := h x (by simp)
  have ha : 0 ≤ Uv side s x := by unfold Uv; split <;> omega
  rw [ZJ]; omega
theorem Q7 {side s : Int} {L : List Z6} (h : ZO side s L = []) : ZD side s L = 0 := by unfold ZD; rw [h]; rfl
theorem Z17 (o : Bool) (s m : Int) : s ≤ ZR o s m ∧ ZR o s m ≤ s + 1 := by unfold ZR; split <;> omega
theorem Zbc {a b : Z6} {m : Int} (h : Xh a b) : Xh (stH m a) (stH m b) := by
 unfold Xh at *
 rcases h with h | ⟨h1, h2, h3⟩
 ·exact .inl h
 ·refine .inr ⟨h1, h2, ?_⟩
  show min (ZR b.own b.stage m) 5 ≤ min (ZR a.own a.stage m) 5
  have k1 := Z17 a.own a.stage m
  have k2 := Z17 b.own b.stage m
  by_cases e : a.stage = b.stage
  ·rw [h1, e]; omega
  ·omega
theorem Z75 {m : Int} {L : List Z6} (h : L.Pairwise Xh) : (Yc m L).Pairwise Xh := by
 unfold Yc
 refine List.Pairwise.filter _ ?_
 exact List.pairwise_map.2 (h.imp fun hab => Zbc hab)
theorem Q8 {m : Int} {L : List Z6} {x : Z6} (h : x ∈ Yc m L) : ∃ z ∈ L, x = stH m z ∧ ZR z.own z.stage m ≠ 10 := by
 unfold Yc at h
 obtain ⟨h1, h2⟩ := List.mem_filter.1 h
 obtain ⟨z, hz, rfl⟩ := List.mem_map.1 h1
 exact ⟨z, hz, rfl, of_decide_eq_true h2⟩
theorem Q9 {m : Int} {L : List Z6} {x : Z6} (h : x ∈ ZP m L) : ∃ z ∈ L, x = stH m z := by
 unfold ZP at h
 obtain ⟨h1, h2⟩ := List.mem_filter.1 h
 obtain ⟨z, hz, rfl⟩ := List.mem_map.1 h1
 exact ⟨z, hz, rfl⟩
theorem Zgp (o : Bool) : XZ o 5 = 0 := by unfold XZ; simp
theorem Zbd {H : List Int → List Int} {z : Z6} {m : Int} (hm : 1 ≤ m ∧ m ≤ 4) (h : Z2m H z = true) : Z2m H (stH m z) = true := by
 have k := Z17 z.own z.stage m
 unfold Z2m at *
 show (if z.fin = 0 then decide (ZR z.own z.stage m < 6) && (z.secret == Zd) else if z.fin = 1 then decide (6 ≤ ZR z.own z.stage m) && (H z.secret == z.hash) else if z.fin = 2 then decide (6 ≤ ZR z.own z.stage m) && (z.secret == Zd) else false) = true
 by_cases h0 : z.fin = 0
 ·rw [if_pos h0] at h ⊢
  simp only [Bool.and_eq_true, decide_eq_true_eq] at h ⊢
  refine ⟨?_, h.2⟩
  by_cases h5 : z.stage = 5
  ·have : ZR z.own z.stage m = 5 := by unfold ZR; rw [h5, Zgp, if_neg (by omega)]
   omega
  ·omega
 ·rw [if_neg h0] at h ⊢
  by_cases h1 : z.fin = 1
  ·rw [if_pos h1] at h ⊢
   simp only [Bool.and_eq_true, decide_eq_true_eq] at h ⊢
   exact ⟨by omega, h.2⟩
  ·rw [if_neg h1] at h ⊢
   by_cases h2 : z.fin = 2
   ·rw [if_pos h2] at h ⊢
    simp only [Bool.and_eq_true, decide_eq_true_eq] at h ⊢
    exact ⟨by omega, h.2⟩
   ·rw [if_neg h2] at h; cases h
theorem Za.Inv.stpX {H : List Int → List Int} {X : Za} (h : X.Inv H) (m : Int) : (stpX X m).Inv H := by
 unfold Go.Tk.stpX
 split
 case isFalse => exact h
 rename_i hm
 have hA : ∀ z ∈ X.L, 0 ≤ z.amount := fun z hz => (h.am.am z hz).1
 have hG : ∀ z ∈ ZP m X.L, 0 ≤ z.amount := fun z hz => by
  obtain ⟨y, hy, rfl⟩ := Q9 hz
  exact hA y hy
 have hLf : ∀ z ∈ Yc m X.L, 0 ≤ z.amount := fun z hz => by
  obtain ⟨y, hy, rfl, _⟩ := Q8 hz
  exact hA y hy
 unfold Qz
 rw [U2 h.side]
 have s0 := Z4x m X.side 0 X.L
 have s1 := Z4x m X.side 1 X.L
 have p0 := QF (side := X.side) (s := 0) hG
 have p1 := QF (side := X.side) (s := 1) hG
 have q0 := Xb (side := X.side) (s := 0) hLf
 have q1 := Xb (side := X.side) (s := 1) hLf
 have o0 := h.ov0
 rw [Xa] at o0
 have ham0 : X.am 0 = X.a0 := rfl
 have ham1 : X.am 1 = X.a1 := rfl
 rw [ham0, if_pos rfl] at o0
 have tb := ZZ h.tb
 have hr := h.res
 have ha0 := h.a0
 have ha1 := h.a1
 have o1 : ZD X.side 1 X.L = 0 ∨ 0 ≤ X.a1 - ZD X.side 1 X.L - X.res := by
  rcases h.ov1 with k | k
  ·exact .inl (Q7 k)
  ·right
   rw [Xa, ham1, if_neg (by decide)] at k
   omega
 have hov : ∀ (a b s : Int), Ya { X with L := Yc m X.L, a0 := a, a1 := b } s = (if s = 0 then a else b) - ZD X.side s (Yc m X.L) - X.res - (if s = 0 then X.t.fee else 0) := fun a b s => rfl
 refine ⟨h.tok, h.tb, h.side, h.res, ?_, ?_, h.i0, h.i1, ?_, ?_, ?_, Z75 h.fol, ?_, ?_, ?_⟩
 ·show 0 ≤ _ ∧ _ ≤ X.t.cap
  constructor <;> dsimp only <;> omega
 ·dsimp only; omega
 ·have := Z16 m X.side 0 X.L
  have k := h.n0
  unfold Yk at this
  dsimp only; omega
 ·have := Z16 m X.side 1 X.L
  have k := h.n1
  unfold Yk at this
  dsimp only; omega
 ·intro x hx
  obtain ⟨z, hz, rfl, hn⟩ := Q8 hx
  obtain ⟨u1, u2, u3, u4⟩ := YN (h.und z hz)
  have k := Z17 z.own z.stage m
  exact Vc u1 u2 (show 1 ≤ ZR z.own z.stage m ∧ ZR z.own z.stage m ≤ 9 by omega) (Zbd hm u4)
 ·rw [hov, if_pos rfl, if_pos rfl]; omega
 ·rcases h.ov1 with k | k
  ·left
   rw [Vp] at k ⊢
   have := Z16 m X.side 1 X.L
   show Yk X.side 1 (Yc m X.L) = 0
   omega
  ·right
   rw [Xa, ham1, if_neg (by decide)] at k
   rw [hov, if_neg (by decide), if_neg (by decide)]; omega
 ·intro x hx
  obtain ⟨z, hz, rfl, _⟩ := Q8 hx
  have := h.ok z hz
  exact ⟨this.hash, this.hb, this.secret, this.sb⟩
theorem Z0v (x : Z6) (r : List Z6) : Y9 (x :: r) = if Yn x.own x.stage = 0 then Y9 r else brH x :: Y9 r := by
 unfold Y9
 rw [List.filter_cons]
 by_cases h : Yn x.own x.stage = 0 <;> simp [h]
theorem Z0w (x : Z6) (r : List Z6) : ZB (x :: r) = if Yn x.own x.stage = 0 then x :: ZB r else ZB r := by
 unfold ZB
 rw [List.filter_cons]
 by_cases h : Yn x.own x.stage = 0 <;> simp [h]
theorem XS (x : Z6) : (brH x).own = x.own ∧ (brH x).id = x.id ∧ (brH x).amount = x.amount ∧ (brH x).hash = x.hash ∧ (brH x).expiry = x.expiry := by
 unfold brH; split <;> exact ⟨rfl, rfl, rfl, rfl, rfl⟩
theorem Z18 (side s : Int) : ∀ L, ZD side s L = ZD side s (Y9 L) + ZD side s (ZB L)
 | [] => rfl
 | x :: r => by
  have ih := Z18 side s r
  have e : Uv side s (brH x) = Uv side s x := by unfold Uv; rw [(XS x).1, (XS x).2.2.1]
  rw [Z0v, Z0w, ZJ]
  split
  ·rw [ZJ]; omega
  ·rw [ZJ, e]; omega
theorem Z19 (side s : Int) : ∀ L, Yk side s L = Yk side s (Y9 L) + Yk side s (ZB L)
 | [] => rfl
 | x :: r => by
  have ih := Z19 side s r
  have e : U1 side s (brH x) = U1 side s x := by unfold U1; rw [(XS x).1]
  rw [Z0v, Z0w, Y0]
  split
  ·rw [Y0]; omega
  ·rw [Y0, e]; omega
theorem Z2w {o : Bool} {s : Int} (hs : 1 ≤ s ∧ s ≤ 9) : Yn o s = 0 ↔ o = false ∧ s = 1 := by
 unfold Yn
 split
 ·rename_i h
  rcases h with h | h | h
  ·omega
  ·omega
  ·exact ⟨fun _ => h, fun _ => rfl⟩
 ·rename_i h
  have h1 : ¬ (o = false ∧ s = 1) := fun q => h (.inr (.inr q))
  split <;> exact ⟨fun q => by omega, fun q => absurd q h1⟩
theorem Z1a {o : Bool} {s : Int} (hs : 1 ≤ s ∧ s ≤ 9) (h0 : Yn o s ≠ 0) : Yn o s = if o = true ∧ s = 6 then 5 else s := by
 have : ¬ (s < 1 ∨ 10 < s ∨ (o = false ∧ s = 1)) := fun q => by
  rcases q with q | q | q
  ·omega
  ·omega
  ·exact h0 ((Z2w hs).2 q)
 unfold Yn
 rw [if_neg this]
theorem Z5G {x : Z6} (hs : 1 ≤ x.stage ∧ x.stage ≤ 9) (h0 : Yn x.own x.stage ≠ 0) : (brH x).stage = Yn x.own x.stage := by
 unfold brH; split
 ·rename_i h; exact h.symm
 ·rfl
theorem Zbe {x : Z6} (hs : 1 ≤ x.stage ∧ x.stage ≤ 9) (h0 : Yn x.own x.stage ≠ 0) : min (brH x).stage 5 = min x.stage 5 := by
 rw [Z5G hs h0, Z1a hs h0]
 split
 ·rename_i h; rw [h.2]; rfl
 ·rfl
theorem Z2x {L : List Z6} {x : Z6} (h : x ∈ Y9 L) : ∃ z ∈ L, x = brH z ∧ Yn z.own z.stage ≠ 0 := by
 unfold Y9 at h
 obtain ⟨z, hz, rfl⟩ := List.mem_map.1 h
 obtain ⟨h1, h2⟩ := List.mem_filter.1 hz
 exact ⟨z, h1, rfl, by simpa using h2⟩
theorem Vq {L : List Z6} {x : Z6} (h : x ∈ ZB L) : x ∈ L ∧ Yn x.own x.stage = 0 := by
 unfold ZB at h
 obtain ⟨h1, h2⟩ := List.mem_filter.1 h
 exact ⟨h1, by simpa using h2⟩
theorem Z0b : ∀ {G : List Z6} {z N : Int}, z < N → (∀ g ∈ G, z < g.id ∧ g.id < N) → G.Pairwise (fun a b => a.id < b.id) → z + G.length < N
 | [], z, N, h, _, _ => by simpa using h
 | g :: r, z, N, h, hg, hp => by
  obtain ⟨h1, h2⟩ := List.pairwise_cons.1 hp
  have k := hg g (by simp)
  have := Z0b (G := r) (z := g.id) (N := N) k.2 (fun y hy => ⟨h1 y hy, (hg y (by simp [hy])).2⟩) h2
  rw [List.length_cons]; omega
theorem Za.Inv.brIds {H : List Int → List Int} {X : Za} (h : X.Inv H) : (ZB X.L).Pairwise (fun a b => a.id < b.id) ∧ ∀ g ∈ ZB X.L, g.own = false ∧ g.stage = 1 ∧ 0 ≤ g.id ∧ g.id < X.i1 := by
 have hm : ∀ g ∈ ZB X.L, g.own = false ∧ g.stage = 1 ∧ 0 ≤ g.id ∧ g.id < X.i1 := fun g hg => by
  obtain ⟨h1, h2⟩ := Vq hg
  obtain ⟨u1, u2, u3, u4⟩ := YN (h.und g h1)
  have k := (Z2w u3).1 h2
  have := Z81 u1
  rw [k.1] at u2
  exact ⟨k.1, k.2, this.1.1, u2⟩
 refine ⟨?_, hm⟩
 have hp : (ZB X.L).Pairwise Xh := List.Pairwise.filter _ h.fol
 refine List.Pairwise.imp_of_mem (fun {a b} ha hb hab => ?_) hp
 rcases hab with ⟨k, _⟩ | ⟨_, k, _⟩
 ·rw [(hm a ha).1] at k; cases k
 ·exact k
theorem Za.Inv.brLt {H : List Int → List Int} {X : Za} (h : X.Inv H) {z : Z6} (hz : z ∈ X.L) (h0 : Yn z.own z.stage ≠ 0) (ho : z.own = false) : z.id + (ZB X.L).length < X.i1 := by
 obtain ⟨hp, hm⟩ := h.brIds
 obtain ⟨u1, u2, u3, u4⟩ := YN (h.und z hz)
 rw [ho] at u2
 refine Z0b (show z.id < X.i1 from u2) (fun g hg => ?_) hp
 have k := hm g hg
 refine ⟨?_, k.2.2.2⟩
 have hzs : z.stage ≠ 1 := fun e => h0 ((Z2w u3).2 ⟨ho, e⟩)
 have hgm := (Vq hg).1
 obtain ⟨i, hi, rfl⟩ := List.getElem_of_mem hz
 obtain ⟨j, hj, rfl⟩ := List.getElem_of_mem hgm
 have hpw := List.pairwise_iff_getElem.1 h.fol
 rcases Nat.lt_trichotomy i j with e | e | e
 ·rcases hpw i j hi hj e with ⟨q, _⟩ | ⟨_, q, _⟩
  ·rw [ho] at q; cases q
  ·exact q
 ·subst e; exact absurd k.2.1 hzs
 ·rcases hpw j i hj hi e with ⟨q, _⟩ | ⟨_, _, q⟩
  ·rw [k.1] at q; cases q
  ·rw [k.2.1] at q; omega
theorem Za.Inv.brkX {H : List Int → List Int} {X : Za} (h : X.Inv H) : (brkX X).Inv H := by
 unfold Go.Tk.brkX
 have hA : ∀ z ∈ X.L, 0 ≤ z.amount := fun z hz => (h.am.am z hz).1
 have hG : ∀ z ∈ ZB X.L, 0 ≤ z.amount := fun z hz => hA z (Vq hz).1
 have s0 := Z18 X.side 0 X.L
 have s1 := Z18 X.side 1 X.L
 have p0 := Xb (side := X.side) (s := 0) hG
 have p1 := Xb (side := X.side) (s := 1) hG
 have hov : ∀ s, Ya { X with L := Y9 X.L, i1 := X.i1 - (ZB X.L).length } s = Ya X s + ZD X.side s (ZB X.L) := fun s => by
  have : Ya { X with L := Y9 X.L, i1 := X.i1 - (ZB X.L).length } s = X.am s - ZD X.side s (Y9 X.L) - X.res - (if s = 0 then X.t.fee else 0) := rfl
  rw [this, Xa, Z18 X.side s X.L]; omega
 obtain ⟨hp, hm⟩ := h.brIds
 have hcnt : -1 + ((ZB X.L).length : Int) < X.i1 := Z0b (by have := h.i1; omega) (fun g hg => ⟨by have := (hm g hg).2.2.1; omega, (hm g hg).2.2.2⟩) hp
 refine ⟨h.tok, h.tb, h.side, h.res, h.a0, h.a1, h.i0, ?_, ?_, ?_, ?_, ?_, ?_, ?_, ?_⟩
 ·have := h.i1
  dsimp only; omega
 ·have := Z19 X.side 0 X.L
  have k := h.n0
  unfold Yk at this
  dsimp only; omega
 ·have := Z19 X.side 1 X.L
  have k := h.n1
  unfold Yk at this
  dsimp only; omega
 ·intro x hx
  obtain ⟨z, hz, rfl, h0⟩ := Z2x hx
  obtain ⟨u1, u2, u3, u4⟩ := YN (h.und z hz)
  obtain ⟨e1, e2, e3, e4, e5⟩ := XS z
  refine Vc ?_ ?_ ?_ ?_
  ·unfold Yj at *; rw [e2, e3, e5]; exact u1
  ·rw [e1, e2]
   cases ho : z.own
   ·have := h.brLt hz h0 ho
    show z.id < X.i1 - _
    omega
   ·rw [ho] at u2; exact u2
  ·rw [Z5G u3 h0, Z1a u3 h0]; split <;> omega
  ·unfold brH
   split
   ·simp [Z2m]
   ·rename_i h5
    have : Yn z.own z.stage = z.stage := by
     rw [Z1a u3 h0] at h5 ⊢
     split
     ·rename_i q; rw [if_pos q] at h5; exact absurd rfl h5
     ·rfl
    rw [this]; exact u4
 ·unfold Y9
  refine List.pairwise_map.2 ?_
  refine List.Pairwise.imp_of_mem (fun {a b} ha hb hab => ?_) (List.Pairwise.filter _ h.fol)
  obtain ⟨ha1, ha2⟩ := List.mem_filter.1 ha
  obtain ⟨hb1, hb2⟩ := List.mem_filter.1 hb
  have ka := Zbe (YN (h.und a ha1)).2.2.1 (by simpa using ha2)
  have kb := Zbe (YN (h.und b hb1)).2.2.1 (by simpa using hb2)
  refine Z5E ?_ ?_ hab
  ·unfold WP; rw [(XS a).1, (XS a).2.1, (XS a).2.2.1, ka]
  ·unfold WP; rw [(XS b).1, (XS b).2.1, (XS b).2.2.1, kb]
 ·rw [hov]; have := h.ov0; omega
 ·rcases h.ov1 with k | k
  ·left
   rw [Vp] at k ⊢
   have := Z19 X.side 1 X.L
   show Yk X.side 1 (Y9 X.L) = 0
   omega
  ·right; rw [hov]; omega
 ·intro x hx
  obtain ⟨z, hz, rfl, _⟩ := Z2x hx
  have := h.ok z hz
  unfold brH
  split
  ·exact ⟨this.hash, this.hb, rfl, XR⟩
  ·exact ⟨this.hash, this.hb, this.secret, this.sb⟩
end Go.Tk
end
section
namespace Go.Tk
open IntKind (i64 u8 u32 u64 wrap)
theorem Yb {L : List Z6} {i : Nat} (hi : i < L.length) : L.take (i + 1) = L.take i ++ [L.getD i Zc] := by
 rw [List.take_succ_eq_append_getElem hi, List.getD_eq_getElem?_getD, List.getElem?_eq_getElem hi]; rfl
theorem Vd (p : Z6 → Bool) (x : Z6) : [x].filter p = YM (p x) x := by
 rw [List.filter_cons]
 cases p x <;> rfl
theorem Qa (m : Int) (A : List Z6) (x : Z6) : ZP m (A ++ [x]) = ZP m A ++ YM (decide (ZR x.own x.stage m = 10)) (stH m x) := by
 unfold ZP
 rw [List.map_append, List.filter_append, List.map_cons, List.map_nil, Vd]; rfl
theorem Z2y (m : Int) (A : List Z6) (x : Z6) : Yc m (A ++ [x]) = Yc m A ++ YM (decide (¬ ZR x.own x.stage m = 10)) (stH m x) := by
 unfold Yc
 rw [List.map_append, List.filter_append, List.map_cons, List.map_nil, Vd]; rfl
theorem Z2z (m : Int) (A : List Z6) (x : Z6) : Yd m (A ++ [x]) = Yd m A ++ YM (decide (x.stage = 4 ∧ XZ x.own 4 = m)) (stH m x) := by
 unfold Yd
 rw [List.filter_append, List.map_append, Vd]
 cases decide (x.stage = 4 ∧ XZ x.own 4 = m) <;> rfl
theorem Zbf (m side : Int) (p : Int × Int) (A : List Z6) (x : Z6) : Qz m side p (A ++ [x]) = if ZR x.own x.stage m = 10 then XJ side (Qz m side p A) (stH m x) else Qz m side p A := by
 unfold Qz
 rw [Qa, List.foldl_append]
 by_cases h : ZR x.own x.stage m = 10
 ·rw [decide_eq_true h, if_pos h]; rfl
 ·rw [decide_eq_false h, if_neg h]; rfl
theorem Z3B {side s : Int} {G : List Z6} {n : Nat} (hn : G.length ≤ n) (h : ∀ x ∈ G, 0 ≤ x.amount ∧ x.amount ≤ 1125899906842624) : 0 ≤ ZD side s G ∧ ZD side s G ≤ 1125899906842624 * n := by
 unfold ZD
 have := Z08 (xs := Xv (ZO side s G)) fun x hx => by
  obtain ⟨z, hz, rfl⟩ := List.mem_map.1 hx
  exact h z (List.mem_filter.1 hz).1
 have h2 : (Xv (ZO side s G)).length ≤ n := by
  unfold Xv; rw [List.length_map]
  exact Nat.le_trans (Z4u side s G) hn
 omega
theorem Z76 {m side : Int} {a b : Int} {A : List Z6} (hs : side = 0 ∨ side = 1) (hn : A.length ≤ 16) (hA : ∀ x ∈ A, 0 ≤ x.amount ∧ x.amount ≤ 1125899906842624) (ha : 0 ≤ a ∧ a ≤ 1125899906842624) (hb : 0 ≤ b ∧ b ≤ 1125899906842624) :
  (-1152921504606846976 ≤ (Qz m side (a, b) A).1 ∧ (Qz m side (a, b) A).1 ≤ 1152921504606846976) ∧ -1152921504606846976 ≤ (Qz m side (a, b) A).2 ∧ (Qz m side (a, b) A).2 ≤ 1152921504606846976 := by
 unfold Qz
 rw [U2 hs]
 have hl : (ZP m A).length ≤ 16 := by
  unfold ZP
  refine Nat.le_trans (List.length_filter_le _ _) ?_
  rw [List.length_map]; exact hn
 have hG : ∀ z ∈ ZP m A, 0 ≤ z.amount ∧ z.amount ≤ 1125899906842624 := fun z hz => by
  obtain ⟨y, hy, rfl⟩ := Q9 hz
  exact hA y hy
 have p0 := QF (side := side) (s := 0) fun z hz => (hG z hz).1
 have p1 := QF (side := side) (s := 1) fun z hz => (hG z hz).1
 have q0 := Z3B (side := side) (s := 0) hl hG
 have q1 := Z3B (side := side) (s := 1) hl hG
 dsimp only
 omega
def stX (X : Za) (m : Int) (i : Nat) : Za := { X with a0 := (Qz m X.side (X.a0, X.a1) (X.L.take i)).1, a1 := (Qz m X.side (X.a0, X.a1) (X.L.take i)).2 }
theorem Z5H {X : Za} {m : Int} {i : Nat} (hi : i < X.L.length) : stX X m (i + 1) = if ZR (X.L.getD i Zc).own (X.L.getD i Zc).stage m = 10 then { stX X m i with a0 := (XJ X.side ((stX X m i).a0, (stX X m i).a1) (stH m (X.L.getD i Zc))).1, a1 := (XJ X.side ((stX X m i).a0, (stX X m i).a1) (stH m (X.L.getD i Zc))).2 } else stX X m i := by
 unfold stX
 rw [Yb hi, Zbf]
 by_cases h : ZR (X.L.getD i Zc).own (X.L.getD i Zc).stage m = 10
 ·rw [if_pos h, if_pos h]
 ·rw [if_neg h, if_neg h]
theorem Z2A (m : Int) (A : List Z6) : (ZP m A).length ≤ A.length := by
 unfold ZP; refine Nat.le_trans (List.length_filter_le _ _) ?_; rw [List.length_map]; exact Nat.le_refl _
theorem Z5I (m : Int) (A : List Z6) : (Yc m A).length ≤ A.length := by
 unfold Yc; refine Nat.le_trans (List.length_filter_le _ _) ?_; rw [List.length_map]; exact Nat.le_refl _
theorem Z2B (m : Int) (A : List Z6) : (Yd m A).length ≤ A.length := by
 unfold Yd; rw [List.length_map]; exact List.length_filter_le _ _
def Z5J (X : Za) (m : Int) (n : Nat) : Prop := X.L.length = n ∧ n ≤ 16 ∧ (1 ≤ m ∧ m ≤ 4) ∧ (X.side = 0 ∨ X.side = 1) ∧ (∀ h ∈ X.L, (1 ≤ h.stage ∧ h.stage ≤ 9) ∧ 0 ≤ h.amount ∧ h.amount ≤ 1125899906842624) ∧ (0 ≤ X.a0 ∧ X.a0 ≤ 1125899906842624) ∧ 0 ≤ X.a1 ∧ X.a1 ≤ 1125899906842624
theorem Z3C {X : Za} {m : Int} {n i : Nat} (h : Z5J X m n) : (-1152921504606846976 ≤ (stX X m i).a0 ∧ (stX X m i).a0 ≤ 1152921504606846976) ∧ -1152921504606846976 ≤ (stX X m i).a1 ∧ (stX X m i).a1 ≤ 1152921504606846976 :=
 Z76 h.2.2.2.1 (by rw [List.length_take]; have := h.1; have := h.2.1; omega) (fun x hx => (h.2.2.2.2.1 x (List.mem_of_mem_take hx)).2) h.2.2.2.2.2.1 h.2.2.2.2.2.2
def Zd4 (X : Za) (m : Int) (n i : Nat) : St := stS (stX X m i) X.L m n i (ZP m (X.L.take i)) (Yd m (X.L.take i)) (Yc m (X.L.take i))
def Zd5 (X : Za) (m : Int) (n i : Nat) : St := stE (stX X m i) X.L m n (ZP m (X.L.take i)) (Yd m (X.L.take i)) (Yc m (X.L.take i))
noncomputable def Zd6 (X : Za) (m : Int) (n : Nat) (C : Prop) (E : Nat → St) : Zg := Zd1.withL 15 1 (goM 2 (stS X X.L m n 0 [] [] []) C (Yv 1 n 9 (fun i => i < n) (fun i => i = n) (fun _ => False) (fun _ => False) E E E))
theorem Z83 : Zd1.Ok := Zg.withP_ok Zw Zfg
theorem Zgq (X : Za) (m : Int) (n i : Nat) (hC : Z5J X m n) (hi : i ≤ n) : ZI Zd1 20 15 1 2 (Zd4 X m n i) (rdM 2 1 9 (Zd4 X m n (i + 1)) (Zd5 X m n i) (Zd5 X m n i) (Zd5 X m n i) (i < n ∧ i < n) (i = n) False False) := by
 obtain ⟨h1, h2, h3, h4, h5, h6⟩ := id hC
 have hlt : i < n → i < X.L.length := fun h => by omega
 have l0 : (X.L.take i).length ≤ 16 := by rw [List.length_take]; omega
 have l1 := Z2A m (X.L.take i)
 have l2 := Z2B m (X.L.take i)
 have l3 := Z5I m (X.L.take i)
 refine Zgo (stX X m i) (stX X m (i + 1)) X.L m n i (X.L.getD i Zc) _ _ _ _ _ _ (i < n ∧ i < n) (i = n) (by omega) h1 hi h3 (show 0 ≤ X.side ∧ X.side ≤ 1 by omega) (fun _ => rfl) (fun h => (h5 _ (ZK (hlt h))).1) ⟨by omega, by omega, by omega⟩ (fun h => ?_) (fun h => ?_) (fun h => ?_) (fun h => Z5H (hlt h)) (fun h _ _ => ?_) (fun h => ⟨h, h⟩) (fun h => h)
 ·rw [Yb (hlt h), Qa]
 ·rw [Yb (hlt h), Z2z]
 ·rw [Yb (hlt h), Z2y]
 ·obtain ⟨b1, b2⟩ := Z3C (i := i) hC
  have := (h5 _ (ZK (hlt h))).2
  exact ⟨b1, b2, this.1, by omega⟩
theorem Zd7 (X : Za) (m : Int) (n : Nat) : (Zd6 X m n (Z5J X m n) (Zd5 X m n)).Ok :=
 Zg.withGoM (N := 20) (S := Zd4 X m n) Z83 (by kernel_rfl) fun hC => ⟨rfl, fun i hi _ => Zgq X m n i hC hi⟩
theorem ZhX (X X' : Za) (m : Int) (n l g d : Nat) (G Hd : List Z6) (C : Prop) (XF : Nat → Za) (GF HF LF : Nat → List Z6) (hC : C) (hn : n ≤ 16) (hm : 1 ≤ m ∧ m ≤ 4) (hcap : X.t.cap ≠ 0) (hG : G = GF n) (hH : Hd = HF n) (hX' : X' = { XF n with L := LF n }) (hl : l = X'.L.length) (hg : g = G.length) (hd : d = Hd.length) :
  evF (Zd6 X m n C fun i => stE (XF i) X.L m n (GF i) (HF i) (LF i)) 20 15 [.ptr (some ⟨0, 0, 0, 0, 0⟩), .int .i64 m] (Z4w X n) (YQ 2 (.ret (.tuple [.nslice ⟨4, 0, 70, 0, 0⟩ 70 d d, .nslice ⟨3, 0, 70, 0, 0⟩ 70 g g, .int .i64 0])) 5 [(0, .flat (X'.c (.nslice ⟨2, 0, 70, 0, 0⟩ 70 l l))), (2, .rows 70 l (Z5 X'.L)), (3, .rows 70 g (Z5 G)), (4, .rows 70 d (Z5 Hd))]) := by
 refine @Eq.mpr _ (let q1 := X.t;
 let q2 := q1.cap;
 let q3 := decide (d = 0);
 let q4 := decide (g = 0);
 let q5 := Z0 q3 (Z0 q3 (Z0 q4 (Z0 q4 False False) False) False) False;
 let q6 := decide (n = n);
 let q7 := decide (n ≤ n);
 let q8 := q1.fund;
 let q9 := q1.index;
 let q10 := q1.dust;
 let q11 := q1.fee;
 let q12 := q1.delay;
 let q13 := q1.k0;
 let q14 := q1.k1;
 let q15 := [X.a0, X.a1];
 let q16 := [X.i0, X.i1];
 let q17 := Z5 X.L;
 let q18 := X'.t;
 let q19 := [(2, 4), (3, 2), (4, 3)];
 Z0 (q2 == 0) q5
 (Z0 (decide (1 ≤ m))
 (Z0 (!decide (m ≤ 4)) q5
 (Z0 (decide ((↑n : Int) = (↑n : Int)))
 (Z0 q6
 (Z0 q7
 (Z0 (decide (m = m))
 (q8 = q8 ∧
 Z0 (decide (q9 = q9))
 (Z0 (decide (q2 = q2))
 (Z0 (decide (q10 = q10))
 (Z0 (decide (q11 = q11))
 (Z0 (decide (q12 = q12))
 (q13 = q13 ∧
 q14 = q14 ∧
 Z0 (decide (X.side = X.side))
 (Z0 (decide (X.res = X.res))
 (q15 = q15 ∧
 q16 = q16 ∧
 Z0 q6
 (Z0 q7
 (Z0 q6
 (Z8 2 [(2, 2)] n q17 q17 ∧
 C ∧
 ∀ (i : Nat),
 let q39 := decide (List.length (HF i) = d);
 let q40 := decide (List.length (GF i) = g);
 let q41 := (XF i).t;
 let q42 := decide (List.length (LF i) = l);
 i ≤ n → (∀ (j : Nat), j < i → (fun (i : Nat) => i < n) j) → (i = n → Z0 q39 (Z0 (decide (d ≤ List.length (HF i))) (Z0 q40 (Z0 (decide (g ≤ List.length (GF i))) (q41.fund = q18.fund ∧ Z0 (decide (q41.index = q18.index)) (Z0 (decide (q41.cap = q18.cap)) (Z0 (decide (q41.dust = q18.dust)) (Z0 (decide (q41.fee = q18.fee)) (Z0 (decide (q41.delay = q18.delay)) (q41.k0 = q18.k0 ∧ q41.k1 = q18.k1 ∧ Z0 (decide ((XF i).side = X'.side)) (Z0 (decide ((XF i).res = X'.res)) ([(XF i).a0, (XF i).a1] = [X'.a0, X'.a1] ∧ [(XF i).i0, (XF i).i1] = [X'.i0, X'.i1] ∧ Z0 q42 (Z0 (decide (l ≤ List.length (LF i))) (Z0 q42 (Z8 2 q19 l (Z5 X'.L) (Z5 (LF i)) ∧ Z0 q40 (Z8 2 q19 g (Z5 G) (Z5 (GF i)) ∧ Z0 q39 (Z8 2 q19 d (Z5 Hd) (Z5 (HF i)) ∧ True) False) False) False) False) False) False) False) False) False) False) False) False) False) False) False) False) ∧ (False → False) ∧ (False → False))
 False)
 False)
 False)
 False)
 False)
 False)
 False)
 False)
 False)
 False)
 False)
 False)
 False)
 False))
 q5)) (by kernel_rfl) ?_
 conv => zeta
 try simp only [Zi]
 try simp only [Zj]
 try simp only [Zk]
 try simp only [Zl]
 try simp only [Zm]
 try simp only [Zh]
 try simp only [Int.toNat_natCast, Nat.zero_add, true_and, and_true, Nat.le_refl]
 subst hG hH hX'
 have hR : ∀ τ k (Q : List Z6), Z8 2 τ k (Z5 Q) (Z5 Q) := fun τ k Q => Zn fun _ _ => rfl
 have hcap' : (X.t.cap == 0) = false := by simpa using hcap
 rw [hcap']
 refine ⟨fun h => (by cases h), fun _ => ⟨fun h1 => ⟨fun h2 => ?_, fun _ => ⟨hR _ _ _, hC, fun i hi _ => ⟨fun he => ?_, fun h => h.elim, fun h => h.elim⟩⟩⟩, fun h => absurd hm.1 h⟩⟩
 ·have : ¬ m ≤ 4 := by simpa using h2
  exact absurd hm.2 this
 ·subst he
  repeat' apply And.intro
  all_goals first | rfl | exact hR _ _ _ | exact hl.symm | exact hg.symm | exact hd.symm | exact Nat.le_of_eq hl | exact Nat.le_of_eq hg | exact Nat.le_of_eq hd
theorem ZhY (X : Za) (m : Int) (n : Nat) (C : Prop) (hcap : X.t.cap ≠ 0) (hm : ¬ (1 ≤ m ∧ m ≤ 4)) :
  evF (Zd6 X m n C fun _ => stE X [] m n [] [] []) 20 15 [.ptr (some ⟨0, 0, 0, 0, 0⟩), .int .i64 m] (Z4w X n) (YQ 2 (.ret (.tuple [.nilslice, .nilslice, .int .i64 2])) 2 [(0, .flat (X.c (.nslice ⟨1, 0, 70, 0, 0⟩ 70 n n))), (1, .rows 70 n (Z5 X.L))]) := by
 refine @Eq.mpr _ (let q1 := X.t;
 let q2 := q1.cap;
 let q3 := q1.fund;
 let q4 := q3 = q3;
 let q5 := q1.index;
 let q6 := decide (q5 = q5);
 let q7 := decide (q2 = q2);
 let q8 := q1.dust;
 let q9 := decide (q8 = q8);
 let q10 := q1.fee;
 let q11 := decide (q10 = q10);
 let q12 := q1.delay;
 let q13 := decide (q12 = q12);
 let q14 := q1.k0;
 let q15 := q14 = q14;
 let q16 := q1.k1;
 let q17 := q16 = q16;
 let q18 := decide (X.side = X.side);
 let q19 := decide (X.res = X.res);
 let q20 := [X.a0, X.a1];
 let q21 := q20 = q20;
 let q22 := [X.i0, X.i1];
 let q23 := q22 = q22;
 let q24 := decide (n = n);
 let q25 := decide (n ≤ n);
 let q26 := Z5 X.L;
 let q27 := q4 ∧ Z0 q6 (Z0 q7 (Z0 q9 (Z0 q11 (Z0 q13 (q15 ∧ q17 ∧ Z0 q18 (Z0 q19 (q21 ∧ q23 ∧ Z0 q24 (Z0 q25 (Z0 q24 (Z8 2 [] n q26 q26 ∧ True) False) False) False) False) False) False) False) False) False) False;
 Z0 (q2 == 0) False (Z0 (decide (1 ≤ m)) (Z0 (!decide (m ≤ 4)) q27 (Z0 (decide ((↑n : Int) = (↑n : Int))) (Z0 q24 (Z0 q25 (Z0 (decide (m = m)) (q4 ∧ Z0 q6 (Z0 q7 (Z0 q9 (Z0 q11 (Z0 q13 (q15 ∧ q17 ∧ Z0 q18 (Z0 q19 (q21 ∧ q23 ∧ Z0 q24 (Z0 q25 (Z0 q24 (Z8 2 [(2, 2)] n q26 q26 ∧ C ∧ ∀ (i : Nat), i ≤ n → (∀ (j : Nat), j < i → (fun (i : Nat) => i < n) j) → (i = n → False) ∧ (False → False) ∧ (False → False)) False) False) False) False) False) False) False) False) False) False) False) False) False) False)) q27)) (by kernel_rfl) ?_
 conv => zeta
 try simp only [Zi]
 try simp only [Zj]
 try simp only [Zk]
 try simp only [Zl]
 try simp only [Zm]
 try simp only [Zh]
 try simp only [Int.toNat_natCast, Nat.zero_add, true_and, and_true, Nat.le_refl]
 have hR : ∀ τ k (Q : List Z6), Z8 2 τ k (Z5 Q) (Z5 Q) := fun τ k Q => Zn fun _ _ => rfl
 refine ⟨by simpa using hcap, fun h1 => ⟨fun _ => hR _ _ _, fun h2 => ?_⟩, fun _ => hR _ _ _⟩
 have : m ≤ 4 := by simpa using h2
 exact absurd ⟨h1, this⟩ hm
theorem Wh {t : Ys} (h : XG t = true) : t.cap ≠ 0 := by have := ZZ h; omega
theorem Za.Inv.st {H : List Int → List Int} {X : Za} (h : X.Inv H) {m : Int} (hm : 1 ≤ m ∧ m ≤ 4) : Z5J X m X.L.length :=
 ⟨rfl, h.len, hm, h.side, fun z hz => ⟨(YN (h.und z hz)).2.2.1, h.am.am z hz⟩, by have := h.a0; have := ZZ h.tb; omega, by have := h.a0; have := h.a1; have := ZZ h.tb; omega⟩
theorem Z84 {X : Za} {m : Int} (hm : 1 ≤ m ∧ m ≤ 4) : stpX X m = { stX X m X.L.length with L := Yc m X.L } := by
 unfold stpX stX
 rw [if_pos hm, List.take_length]
def Zbg (c : Bool) : YR := fun args h K => match args with
 | [.ptr (some ⟨l, 0, 0, 0, 0⟩), _] => match h.get l with
  |some (.flat [_, _, _, _, _, _, _, _, _, _, _, _, .nslice ⟨b, 0, 70, 0, 0⟩ 70 _ _]) => frA [l, b] h 20 args fun Bs a => match Bs, a with
   | [.flat cs, .rows 70 n f], [.ptr (some ⟨0, 0, 0, 0, 0⟩), .int .i64 m] =>
    ∃ X, LB cs n f X ∧ X.Inv Zq ∧ (match c with
     | true => (1 ≤ m ∧ m ≤ 4) ∧ K (.ret (.tuple [.nslice ⟨h.next + 2, 0, 70, 0, 0⟩ 70 (Yd m X.L).length (Yd m X.L).length, .nslice ⟨h.next + 1, 0, 70, 0, 0⟩ 70 (ZP m X.L).length (ZP m X.L).length, .int .i64 0])) ⟨h.next + 3, (l, .flat ((stpX X m).c (.nslice ⟨h.next, 0, 70, 0, 0⟩ 70 (stpX X m).L.length (stpX X m).L.length))) :: (h.next, .rows 70 (stpX X m).L.length (Z5 (stpX X m).L)) :: (h.next + 1, .rows 70 (ZP m X.L).length (Z5 (ZP m X.L))) :: (h.next + 2, .rows 70 (Yd m X.L).length (Z5 (Yd m X.L))) :: YP (YP h.bs l) b⟩
     | false => ¬ (1 ≤ m ∧ m ≤ 4) ∧ K (.ret (.tuple [.nilslice, .nilslice, .int .i64 2])) ⟨h.next, (l, .flat (X.c (.nslice ⟨b, 0, 70, 0, 0⟩ 70 X.L.length X.L.length))) :: (b, .rows 70 X.L.length (Z5 X.L)) :: YP (YP h.bs l) b⟩)
   | _, _ => False
  | _ => False
 | _ => False
theorem Zbh (c : Bool) (args : List AV) (h : Z9) (K : KO) (hl : Zbg c args h K) : Zo PP 15 args h K := by
 unfold Zbg at hl
 split at hl
 ·split at hl
  ·refine Spec.fsumm hl fun Bs a hlen hK0 => ?_
   split at hK0
   ·rename_i cs n f m
    obtain ⟨X, ⟨rfl, rfl, rfl⟩, hI, hK⟩ := hK0
    cases c with
    | true =>
     obtain ⟨hm, hK1⟩ := hK
     have e := Z84 (X := X) hm
     have hv := ZhX X (stpX X m) m X.L.length _ _ _ (ZP m X.L) (Yd m X.L) (Z5J X m X.L.length) (stX X m) (fun i => ZP m (X.L.take i)) (fun i => Yd m (X.L.take i)) (fun i => Yc m (X.L.take i)) (hI.st hm) hI.len hm (Wh hI.tb) (by rw [List.take_length]) (by rw [List.take_length]) (by dsimp only; rw [List.take_length]; exact e) rfl rfl rfl
     exact ⟨_, _, _, _, _, .evM (Zd7 X m _) hv, by simp, .ret _ _ rfl, .cons _ _ _ _ _ _ rfl (.flat _ _ rfl) (.cons _ _ _ _ _ _ rfl (.rows _ _ _ (fun _ _ => rfl)) (.cons _ _ _ _ _ _ rfl (.rows _ _ _ (fun _ _ => rfl)) (.cons _ _ _ _ _ _ rfl (.rows _ _ _ (fun _ _ => rfl)) .nil))), hK1⟩
    | false =>
     obtain ⟨hm, hK2⟩ := hK
     have hC : (Zd6 X m X.L.length False fun _ => stE X [] m X.L.length [] [] []).Ok := Zg.withGoM (N := 20) (S := fun i => Zd4 X m X.L.length i) Z83 (by kernel_rfl) fun h => h.elim
     exact ⟨_, _, _, _, _, .evM hC (ZhY X m _ False (Wh hI.tb) hm), by simp, .ret _ _ rfl, .cons _ _ _ _ _ _ rfl (.flat _ _ rfl) (.cons _ _ _ _ _ _ rfl (.rows _ _ _ (fun _ _ => rfl)) .nil), hK2⟩
   ·exact hK0.elim
  ·exact hl.elim
 ·exact hl.elim
end Go.Tk
end
section
namespace Go.Tk
open IntKind (i64 u8 u32 u64 wrap)
noncomputable def Zd8 : Zg := G0.withP 63 bkS
theorem Zd9 : Zd8.Ok := Zg.withP_ok Zw Zfh
def Zgr (X : Za) (L : List Z6) (n : Nat) (G Lf : List Z6) : Z9 := ⟨4, [(0, .flat (X.c (.nslice ⟨1, 0, 70, 0, 0⟩ 70 n n))), (1, .rows 70 n (Z5 L)), (2, .rows 70 G.length (Z5 G)), (3, .rows 70 Lf.length (Z5 Lf))]⟩
def Zda (X : Za) (L : List Z6) (n i : Nat) (G Lf : List Z6) : St := ⟨62, [(14, .int .i64 i), (13, .int .i64 n), (12, .nslice ⟨1, 0, 70, 0, 0⟩ 70 n n), (2, .nslice ⟨2, 0, 70, 0, 0⟩ 70 G.length G.length), (0, .ptr (some ⟨0, 0, 0, 0, 0⟩)), (3, .nslice ⟨3, 0, 70, 0, 0⟩ 70 Lf.length Lf.length)], Zgr X L n G Lf, []⟩
def bkE (X : Za) (L : List Z6) (n : Nat) (G Lf : List Z6) : St := ⟨62, [(0, .ptr (some ⟨0, 0, 0, 0, 0⟩)), (2, .nslice ⟨2, 0, 70, 0, 0⟩ 70 G.length G.length), (3, .nslice ⟨3, 0, 70, 0, 0⟩ 70 Lf.length Lf.length)], Zgr X L n G Lf, []⟩
theorem Zea {x : Z6} (h : Yn x.own x.stage = 5) : brH x = ⟨x.own, x.id, x.amount, x.hash, x.expiry, 5, 0, Zd⟩ := by unfold brH; rw [if_pos h]
theorem Zfm {x : Z6} (hs : 1 ≤ x.stage ∧ x.stage ≤ 9) (h0 : Yn x.own x.stage ≠ 0) (h : ¬ Yn x.own x.stage = 5) : brH x = x := by
 have e : Yn x.own x.stage = x.stage := by
  rw [Z1a hs h0] at h ⊢
  split
  ·rename_i q; rw [if_pos q] at h; exact absurd rfl h
  ·rfl
 unfold brH; rw [if_neg h, e]
theorem ZhZ (X X1 : Za) (L : List Z6) (n i : Nat) (x : Z6) (G Lf G1 Lf1 : List Z6) (Z1 Z2 : Prop) (hn : n < 1000) (hL : L.length = n) (hi : i ≤ n) (hx : i < n → L.getD i Zc = x) (hst : i < n → 1 ≤ x.stage ∧ x.stage ≤ 9) (hb : G.length < 1000 ∧ Lf.length < 1000) (hG : i < n → G1 = G ++ YM (decide (Yn x.own x.stage = 0)) x) (hLf : i < n → Lf1 = Lf ++ YM (decide (¬ Yn x.own x.stage = 0)) (brH x)) (hX1 : i < n → X1 = if Yn x.own x.stage = 0 then { X with i1 := X.i1 - 1 } else X) (hw : -1000 ≤ X.i1 ∧ X.i1 ≤ 2147483648) (hZ1 : i < n → Z1) (hZ2 : i = n → Z2) :
  ZI Zd8 20 21 0 2 (Zda X L n i G Lf) (rdM 2 0 9 (Zda X1 L n (i + 1) G1 Lf1) (bkE X L n G Lf) (bkE X L n G Lf) (bkE X L n G Lf) Z1 Z2 False False) := by
 refine @Eq.mpr _ (let q1 := 0 + Int.toNat (↑i : Int);
 let q2 := List.getD L q1 Zc;
 let q3 := q2.stage;
 let q4 := q2.own;
 let q5 := Yn q4 q3;
 let q6 := List.length G;
 let q7 := decide (q6 = q6);
 let q8 := q6 + 1;
 let q9 := decide (wrap i64 ((↑i : Int) + 1) = (↑(i + 1) : Int));
 let q10 := decide ((↑n : Int) = (↑n : Int));
 let q11 := decide (n = n);
 let q12 := decide (n ≤ n);
 let q13 := List.length G1;
 let q14 := decide (q8 = q13);
 let q15 := List.length Lf;
 let q16 := List.length Lf1;
 let q17 := decide (q15 = q16);
 let q18 := X.t;
 let q19 := q18.fund;
 let q20 := X1.t;
 let q21 := q19 = q20.fund;
 let q22 := q18.index;
 let q23 := decide (q22 = q20.index);
 let q24 := q18.cap;
 let q25 := decide (q24 = q20.cap);
 let q26 := q18.dust;
 let q27 := decide (q26 = q20.dust);
 let q28 := q18.fee;
 let q29 := decide (q28 = q20.fee);
 let q30 := q18.delay;
 let q31 := decide (q30 = q20.delay);
 let q32 := q18.k0;
 let q33 := q32 = q20.k0;
 let q34 := q18.k1;
 let q35 := q34 = q20.k1;
 let q36 := X.side;
 let q37 := decide (q36 = X1.side);
 let q38 := X.res;
 let q39 := decide (q38 = X1.res);
 let q40 := [X.a0, X.a1];
 let q41 := q40 = [X1.a0, X1.a1];
 let q42 := [X1.i0, X1.i1];
 let q43 := [(3, 3), (2, 6)];
 let q44 := Z5 L;
 let q45 := Z5 G;
 let q46 := AV.bool q4;
 let q47 := AV.int i64 q2.id;
 let q48 := AV.int i64 q2.amount;
 let q49 := AV.arr u8 32 q2.hash;
 let q50 := AV.int i64 q2.expiry;
 let q51 := YD [q46, q47, q48, q49, q50, AV.int i64 q3, AV.int i64 q2.fin, AV.arr u8 32 q2.secret] 0 70;
 let q52 := Z5 Lf1;
 let q53 := Z5 Lf;
 let q54 := decide (q15 = q15);
 let q55 := q15 + 1;
 let q56 := decide (q55 * 112 ≤ 140737488355328);
 let q57 := decide (q6 = q13);
 let q58 := decide (q13 ≤ q6);
 let q59 := decide (q55 = q16);
 let q60 := decide (q16 ≤ q55);
 let q61 := [X.i0, X.i1];
 let q62 := q61 = q42;
 let q63 := [(2, 2)];
 let q64 := (3, 6) :: q63;
 let q65 := Z8 2 q64 n q44 q44;
 let q66 := Z8 2 q64 q13 (Z5 G1) q45;
 let q67 := (3, 3) :: q63;
 Z0 (decide ((↑i : Int) < (↑n : Int)))
 (Z0 (decide (0 ≤ (↑i : Int) ∧ (↑i : Int) < (↑n : Int)))
 (Z0 (decide (q1 < n))
 (Z0 (decide (1 ≤ q3 ∧ q3 ≤ 9))
 (Z0 (q5 == 0) (Z0 q7 (Z0 (decide (q8 * 112 ≤ 140737488355328)) (Z0 q9 (Z0 q10 (Z0 q11 (Z0 q12 (Z0 q14 (Z0 (decide (q13 ≤ q8)) (Z0 q17 (Z0 (decide (q16 ≤ q15)) (q21 ∧ Z0 q23 (Z0 q25 (Z0 q27 (Z0 q29 (Z0 q31 (q33 ∧ q35 ∧ Z0 q37 (Z0 q39 (q41 ∧ [X.i0, wrap i64 (X.i1 - 1)] = q42 ∧ Z0 q11 (Z0 q12 (Z0 q11 (Z8 2 q43 n q44 q44 ∧ Z0 q14 (Z8 2 q43 q13 (Z5 G1) (ZV q6 q45 q51) ∧ Z0 q17 (Z8 2 q43 q16 q52 q53 ∧ Z1) False) False) False) False) False) False) False) False) False) False) False) False) False) False) False) False) False) False) False) False) False) False)
 (Z0 (q5 == 5) (Z0 q54 (Z0 q56 (Z0 q9 (Z0 q10 (Z0 q11 (Z0 q12 (Z0 q57 (Z0 q58 (Z0 q59 (Z0 q60 (q21 ∧ Z0 q23 (Z0 q25 (Z0 q27 (Z0 q29 (Z0 q31 (q33 ∧ q35 ∧ Z0 q37 (Z0 q39 (q41 ∧ q62 ∧ Z0 q11 (Z0 q12 (Z0 q11 (q65 ∧ Z0 q57 (q66 ∧ Z0 q59 (Z8 2 q64 q16 q52 (ZV q15 q53 (YD [q46, q47, q48, q49, q50, AV.int i64 q5, AV.int i64 0, AV.arr u8 32 Zd] 0 70)) ∧ Z1) False) False) False) False) False) False) False) False) False) False) False) False) False) False) False) False) False) False) False) False) False) False)
 (Z0 q54 (Z0 q56 (Z0 q9 (Z0 q10 (Z0 q11 (Z0 q12 (Z0 q57 (Z0 q58 (Z0 q59 (Z0 q60 (q21 ∧ Z0 q23 (Z0 q25 (Z0 q27 (Z0 q29 (Z0 q31 (q33 ∧ q35 ∧ Z0 q37 (Z0 q39 (q41 ∧ q62 ∧ Z0 q11 (Z0 q12 (Z0 q11 (q65 ∧ Z0 q57 (q66 ∧ Z0 q59 (Z8 2 q64 q16 q52 (ZV q15 q53 q51) ∧ Z1) False) False) False) False) False) False) False) False) False) False) False) False) False) False) False) False) False) False) False) False) False) False)))
 False)
 False)
 False)
 (Z0 q7 (Z0 (decide (q6 ≤ q6)) (Z0 q54 (Z0 (decide (q15 ≤ q15)) (q19 = q19 ∧ Z0 (decide (q22 = q22)) (Z0 (decide (q24 = q24)) (Z0 (decide (q26 = q26)) (Z0 (decide (q28 = q28)) (Z0 (decide (q30 = q30)) (q32 = q32 ∧ q34 = q34 ∧ Z0 (decide (q36 = q36)) (Z0 (decide (q38 = q38)) (q40 = q40 ∧ q61 = q61 ∧ Z0 q11 (Z0 q12 (Z0 q11 (Z8 2 q67 n q44 q44 ∧ Z0 q7 (Z8 2 q67 q6 q45 q45 ∧ Z0 q54 (Z8 2 q67 q15 q53 q53 ∧ Z2) False) False) False) False) False) False) False) False) False) False) False) False) False) False) False) False)) (by kernel_rfl) ?_
 conv => zeta
 try simp only [Zi]
 try simp only [Zj]
 try simp only [Zk]
 try simp only [Zl]
 try simp only [Zm]
 try simp only [Zh]
 try simp only [Int.toNat_natCast, Nat.zero_add, true_and, and_true, Nat.le_refl]
 refine ⟨fun hc => ?_, fun hc => ?_⟩
 ·have hlt : i < n := by omega
  rw [hx hlt]
  have hG := hG hlt
  have hLf := hLf hlt
  have hX1 := hX1 hlt
  have hst := hst hlt
  have hwr : i64.wrap ((i : Int) + 1) = ((i + 1 : Nat) : Int) := by rw [w64 (by omega)]; omega
  have hwi : i64.wrap (X.i1 - 1) = X.i1 - 1 := w64 (by omega)
  rw [hwr, hwi]
  have hR : ∀ τ k (Q : List Z6), Z8 2 τ k (Z5 Q) (Z5 Q) := fun τ k Q => Zn fun _ _ => rfl
  have hC : ∀ τ (Q : List Z6) (y : Z6), Z8 2 τ (Q ++ [y]).length (Z5 (Q ++ [y])) (ZV Q.length (Z5 Q) (YD y.c 0 70)) := fun τ Q y => Zn fun j hj => Ym rfl (fun _ _ => rfl) (by simpa using hj)
  refine ⟨by omega, hlt, hst, fun h0 => ?_, fun h0 => ⟨fun h5 => ?_, fun h5 => ?_⟩⟩
  ·have h0 : Yn x.own x.stage = 0 := by simpa using h0
   rw [decide_eq_true h0] at hG
   rw [decide_eq_false (fun h => h h0)] at hLf
   rw [if_pos h0] at hX1
   simp only [YM, List.append_nil] at hG hLf
   subst hG hLf hX1
   repeat' apply And.intro
   all_goals first | omega | rfl | exact hZ1 hlt | exact hC _ _ _ | exact hR _ _ _ | (simp; done)
  all_goals
   have h0 : ¬ Yn x.own x.stage = 0 := by simpa using h0
   rw [decide_eq_false h0] at hG
   rw [decide_eq_true h0] at hLf
   rw [if_neg h0] at hX1
   simp only [YM, List.append_nil] at hG hLf
   subst hG hX1
  ·have h5 : Yn x.own x.stage = 5 := by simpa using h5
   rw [Zea h5] at hLf
   rw [h5]
   subst hLf
   repeat' apply And.intro
   all_goals first | omega | rfl | exact hZ1 hlt | exact hC _ _ ⟨x.own, x.id, x.amount, x.hash, x.expiry, 5, 0, Zd⟩ | exact hR _ _ _ | (simp; done)
  ·have h5 : ¬ Yn x.own x.stage = 5 := by simpa using h5
   rw [Zfm hst h0 h5] at hLf
   subst hLf
   repeat' apply And.intro
   all_goals first | omega | rfl | exact hZ1 hlt | exact hC _ _ x | exact hR _ _ _ | (simp; done)
 ·repeat' apply And.intro
  all_goals first | omega | rfl | exact hZ2 (by omega) | exact Zn fun _ _ => rfl
theorem Vr (A : List Z6) (x : Z6) : ZB (A ++ [x]) = ZB A ++ YM (decide (Yn x.own x.stage = 0)) x := by
 unfold ZB
 rw [List.filter_append, Vd]
theorem Z2C (A : List Z6) (x : Z6) : Y9 (A ++ [x]) = Y9 A ++ YM (decide (¬ Yn x.own x.stage = 0)) (brH x) := by
 unfold Y9
 rw [List.filter_append, List.map_append, Vd]
 congr 1
 by_cases h : Yn x.own x.stage = 0 <;> simp [h, YM]
def bkX (X : Za) (i : Nat) : Za := { X with i1 := X.i1 - (ZB (X.L.take i)).length }
def Z77 (X : Za) (n : Nat) : Prop := X.L.length = n ∧ n ≤ 16 ∧ (∀ h ∈ X.L, 1 ≤ h.stage ∧ h.stage ≤ 9) ∧ 0 ≤ X.i1 ∧ X.i1 ≤ 2147483648
def Zdb (X : Za) (n i : Nat) : St := Zda (bkX X i) X.L n i (ZB (X.L.take i)) (Y9 (X.L.take i))
def Zdc (X : Za) (n i : Nat) : St := bkE (bkX X i) X.L n (ZB (X.L.take i)) (Y9 (X.L.take i))
theorem Zi0 (X : Za) (n i : Nat) (hC : Z77 X n) (hi : i ≤ n) : ZI Zd8 20 21 0 2 (Zdb X n i) (rdM 2 0 9 (Zdb X n (i + 1)) (Zdc X n i) (Zdc X n i) (Zdc X n i) (i < n ∧ i < n) (i = n) False False) := by
 obtain ⟨h1, h2, h3, h4⟩ := id hC
 have hlt : i < n → i < X.L.length := fun h => by omega
 have l0 : (X.L.take i).length ≤ 16 := by rw [List.length_take]; omega
 have l1 : (ZB (X.L.take i)).length ≤ (X.L.take i).length := List.length_filter_le _ _
 have l2 : (Y9 (X.L.take i)).length ≤ (X.L.take i).length := by unfold Y9; rw [List.length_map]; exact List.length_filter_le _ _
 have e : ∀ k, (bkX X k).i1 = X.i1 - (ZB (X.L.take k)).length := fun _ => rfl
 refine ZhZ (bkX X i) (bkX X (i + 1)) X.L n i (X.L.getD i Zc) _ _ _ _ (i < n ∧ i < n) (i = n) (by omega) h1 hi (fun _ => rfl) (fun h => h3 _ (ZK (hlt h))) ⟨by omega, by omega⟩ (fun h => ?_) (fun h => ?_) (fun h => ?_) (by rw [e]; omega) (fun h => ⟨h, h⟩) (fun h => h)
 ·rw [Yb (hlt h), Vr]
 ·rw [Yb (hlt h), Z2C]
 ·unfold bkX
  rw [Yb (hlt h), Vr]
  by_cases q : Yn (X.L.getD i Zc).own (X.L.getD i Zc).stage = 0
  ·rw [if_pos q, decide_eq_true q, YM, List.length_append]
   congr 1
   show X.i1 - ((_ + 1 : Nat) : Int) = _
   dsimp only; omega
  ·rw [if_neg q, decide_eq_false q, YM, List.append_nil]
noncomputable def Zeb (X : Za) (n : Nat) (C : Prop) (E : Nat → St) : Zg := Zd8.withL 21 0 (goM 2 (Zda X X.L n 0 [] []) C (Yv 0 n 9 (fun i => i < n) (fun i => i = n) (fun _ => False) (fun _ => False) E E E))
theorem Z5K (X : Za) : bkX X 0 = X := by
 unfold bkX
 have : X.i1 - ((ZB (X.L.take 0)).length : Int) = X.i1 := by simp [ZB]
 rw [this]
theorem Zbi (X : Za) (n : Nat) : (Zeb X n (Z77 X n) (Zdc X n)).Ok :=
 Zg.withGoM (N := 20) (S := Zdb X n) Zd9 (by kernel_rfl) fun hC => ⟨by unfold Zdb; rw [Z5K]; rfl, fun i hi _ => Zi0 X n i hC hi⟩
theorem Zi1 (X X' : Za) (n l g : Nat) (G : List Z6) (C : Prop) (XF : Nat → Za) (GF LF : Nat → List Z6) (hC : C) (hcap : X.t.cap ≠ 0) (hG : G = GF n) (hX' : X' = { XF n with L := LF n }) (hl : l = X'.L.length) (hg : g = G.length) :
  evF (Zeb X n C fun i => bkE (XF i) X.L n (GF i) (LF i)) 20 21 [.ptr (some ⟨0, 0, 0, 0, 0⟩)] (Z4w X n) (YQ 2 (.ret (.nslice ⟨3, 0, 70, 0, 0⟩ 70 g g)) 4 [(0, .flat (X'.c (.nslice ⟨2, 0, 70, 0, 0⟩ 70 l l))), (2, .rows 70 l (Z5 X'.L)), (3, .rows 70 g (Z5 G))]) := by
 refine @Eq.mpr _ (let q1 := X.t;
 let q2 := q1.cap;
 let q3 := decide (g = 0);
 let q4 := q1.fund;
 let q5 := X'.t;
 let q6 := q5.fund;
 let q7 := q1.index;
 let q8 := q5.index;
 let q9 := q5.cap;
 let q10 := q1.dust;
 let q11 := q5.dust;
 let q12 := q1.fee;
 let q13 := q5.fee;
 let q14 := q1.delay;
 let q15 := q5.delay;
 let q16 := q1.k0;
 let q17 := q5.k0;
 let q18 := q1.k1;
 let q19 := q5.k1;
 let q20 := X.side;
 let q21 := X.res;
 let q22 := [X.a0, X.a1];
 let q23 := [X'.a0, X'.a1];
 let q24 := [X.i0, X.i1];
 let q25 := [X'.i0, X'.i1];
 let q26 := decide (n = l);
 let q27 := decide (l ≤ n);
 let q28 := Z5 X'.L;
 let q29 := Z5 X.L;
 let q30 := decide (n = n);
 let q31 := decide (n ≤ n);
 let q32 := [(3, 2)];
 let q33 := (2, 3) :: q32;
 let q34 := (2, 1) :: q32;
 Z0 (q2 == 0) (Z0 q3 (Z0 q3 (q4 = q6 ∧ Z0 (decide (q7 = q8)) (Z0 (decide (q2 = q9)) (Z0 (decide (q10 = q11)) (Z0 (decide (q12 = q13)) (Z0 (decide (q14 = q15)) (q16 = q17 ∧ q18 = q19 ∧ Z0 (decide (q20 = X'.side)) (Z0 (decide (q21 = X'.res)) (q22 = q23 ∧ q24 = q25 ∧ Z0 q26 (Z0 q27 (Z0 q26 (Z8 2 [(2, 1)] l q28 q29 ∧ Z0 q3 True False) False) False) False) False) False) False) False) False) False) False) False) False)
 (Z0 (decide ((↑n : Int) = (↑n : Int)))
 (Z0 q30
 (Z0 q31
 (q4 = q4 ∧
 Z0 (decide (q7 = q7))
 (Z0 (decide (q2 = q2))
 (Z0 (decide (q10 = q10))
 (Z0 (decide (q12 = q12))
 (Z0 (decide (q14 = q14))
 (q16 = q16 ∧
 q18 = q18 ∧
 Z0 (decide (q20 = q20))
 (Z0 (decide (q21 = q21))
 (q22 = q22 ∧
 q24 = q24 ∧
 Z0 q30
 (Z0 q31
 (Z0 q30
 (Z8 2 [] n q29 q29 ∧
 C ∧
 ∀ (i : Nat),
 let q69 := decide (List.length (GF i) = g);
 let q70 := decide (g ≤ List.length (GF i));
 let q71 := (XF i).t;
 let q72 := q71.fund = q6;
 let q73 := decide (q71.index = q8);
 let q74 := decide (q71.cap = q9);
 let q75 := decide (q71.dust = q11);
 let q76 := decide (q71.fee = q13);
 let q77 := decide (q71.delay = q15);
 let q78 := q71.k0 = q17;
 let q79 := q71.k1 = q19;
 let q80 := decide ((XF i).side = X'.side);
 let q81 := decide ((XF i).res = X'.res);
 let q82 := [(XF i).a0, (XF i).a1] = q23;
 let q83 := [(XF i).i0, (XF i).i1] = q25;
 let q84 := decide (List.length (LF i) = l);
 i ≤ n → (∀ (j : Nat), j < i → (fun (i : Nat) => i < n) j) → (i = n → Z0 q69 (Z0 q70 (q72 ∧ Z0 q73 (Z0 q74 (Z0 q75 (Z0 q76 (Z0 q77 (q78 ∧ q79 ∧ Z0 q80 (Z0 q81 (q82 ∧ q83 ∧ Z0 q84 (Z0 (decide (l ≤ List.length (LF i))) (Z0 q84 (Z8 2 q33 l q28 (Z5 (LF i)) ∧ Z0 q69 (Z8 2 q33 g (Z5 G) (Z5 (GF i)) ∧ True) False) False) False) False) False) False) False) False) False) False) False) False) False) ∧ (False → Z0 q69 (Z0 q70 (q72 ∧ Z0 q73 (Z0 q74 (Z0 q75 (Z0 q76 (Z0 q77 (q78 ∧ q79 ∧ Z0 q80 (Z0 q81 (q82 ∧ q83 ∧ Z0 q26 (Z0 q27 (Z0 q26 (Z8 2 q34 l q28 q29 ∧ Z0 q69 (Z8 2 q34 g (Z5 G) (Z5 (GF i)) ∧ True) False) False) False) False) False) False) False) False) False) False) False) False) False) ∧ (False → False))
 False)
 False)
 False)
 False)
 False)
 False)
 False)
 False)
 False)
 False)
 False)
 False)
 False)) (by kernel_rfl) ?_
 conv => zeta
 try simp only [Zi]
 try simp only [Zj]
 try simp only [Zk]
 try simp only [Zl]
 try simp only [Zm]
 try simp only [Zh]
 try simp only [Int.toNat_natCast, Nat.zero_add, true_and, and_true, Nat.le_refl]
 subst hG hX'
 have hR : ∀ τ k (Q : List Z6), Z8 2 τ k (Z5 Q) (Z5 Q) := fun τ k Q => Zn fun _ _ => rfl
 refine ⟨fun h => absurd h (by simpa using hcap), fun _ => ⟨hR _ _ _, hC, fun i hi _ => ⟨fun he => ?_, fun h => h.elim, fun h => h.elim⟩⟩⟩
 subst he
 repeat' apply And.intro
 all_goals first | rfl | exact hR _ _ _ | exact hl.symm | exact hg.symm | exact Nat.le_of_eq hl | exact Nat.le_of_eq hg
theorem Za.Inv.bk {H : List Int → List Int} {X : Za} (h : X.Inv H) : Z77 X X.L.length := ⟨rfl, h.len, h.stage, h.i1⟩
theorem Z85 (X : Za) : brkX X = { bkX X X.L.length with L := Y9 X.L } := by
 unfold brkX bkX
 rw [List.take_length]
def Z78 : YR := fun args h K => match args with
 | [.ptr (some ⟨l, 0, 0, 0, 0⟩)] => match h.get l with
  |some (.flat [_, _, _, _, _, _, _, _, _, _, _, _, .nslice ⟨b, 0, 70, 0, 0⟩ 70 _ _]) => frA [l, b] h 20 args fun Bs a => match Bs, a with
   | [.flat cs, .rows 70 n f], [.ptr (some ⟨0, 0, 0, 0, 0⟩)] =>
    ∃ X, LB cs n f X ∧ X.Inv Zq ∧ K (.ret (.nslice ⟨h.next + 1, 0, 70, 0, 0⟩ 70 (ZB X.L).length (ZB X.L).length)) ⟨h.next + 2, (l, .flat ((brkX X).c (.nslice ⟨h.next, 0, 70, 0, 0⟩ 70 (brkX X).L.length (brkX X).L.length))) :: (h.next, .rows 70 (brkX X).L.length (Z5 (brkX X).L)) :: (h.next + 1, .rows 70 (ZB X.L).length (Z5 (ZB X.L))) :: YP (YP h.bs l) b⟩
   | _, _ => False
  | _ => False
 | _ => False
theorem Z9h (args : List AV) (h : Z9) (K : KO) (hl : Z78 args h K) : Zo PP 21 args h K := by
 unfold Z78 at hl
 split at hl
 ·split at hl
  ·refine Spec.fsumm hl fun Bs a hlen hK0 => ?_
   split at hK0
   ·rename_i cs n f
    obtain ⟨X, ⟨rfl, rfl, rfl⟩, hI, hK⟩ := hK0
    have e := Z85 X
    have hv := Zi1 X (brkX X) X.L.length _ _ (ZB X.L) (Z77 X X.L.length) (bkX X) (fun i => ZB (X.L.take i)) (fun i => Y9 (X.L.take i)) hI.bk (Wh hI.tb) (by rw [List.take_length]) (by dsimp only; rw [List.take_length]; exact e) rfl rfl
    exact ⟨_, _, _, _, _, .evM (Zbi X _) hv, by simp, .ret _ _ rfl, .cons _ _ _ _ _ _ rfl (.flat _ _ rfl) (.cons _ _ _ _ _ _ rfl (.rows _ _ _ (fun _ _ => rfl)) (.cons _ _ _ _ _ _ rfl (.rows _ _ _ (fun _ _ => rfl)) .nil)), hK⟩
   ·exact hK0.elim
  ·exact hl.elim
 ·exact hl.elim
end Go.Tk
end
section
namespace Go.Tk
open IntKind (i64 u8 u32 u64 wrap)
structure YO where
 frm : Int
 id : Int
 amount : Int
 hash : List Int
 expiry : Int
def YO.c (p : YO) : List AV := [.int .i64 p.frm, .int .i64 p.id, .int .i64 p.amount, .arr .u8 32 p.hash, .int .i64 p.expiry]
def Zfn : YO := ⟨0, 0, 0, Zd, 0⟩
def ZE (P : List YO) (i : Nat) : List AV := (P.getD i Zfn).c
theorem Vs (P : List YO) (i : Nat) : Yi (ZE P i) = true := rfl
theorem Xu {k : Nat} {τ : Ren} {n : Nat} {P : List YO} {f : Nat → List AV} (h : ∀ i, i < n → f i = ZE P i) : Z8 k τ n (ZE P) f :=
 Z3k h (fun i _ => Vs P i) (fun i _ v hv => by
  simp only [ZE, YO.c, List.mem_cons, List.not_mem_nil, or_false] at hv
  rcases hv with rfl | rfl | rfl | rfl | rfl <;> first | exact .inl rfl | exact .inr ⟨_, _, _, rfl⟩)
theorem Z0x {O : List YO} {x : YO} {i : Nat} (hi : i < O.length + 1) : ZV O.length (ZE O) (YD (YO.c x) 0 36) i = ZE (O ++ [x]) i := by
 rcases Nat.lt_or_ge i O.length with h | h
 ·rw [Z7I h]
  unfold ZE
  rw [List.getD_eq_getElem?_getD, List.getD_eq_getElem?_getD, List.getElem?_append_left (by omega)]
 ·have e : i = O.length := by omega
  subst e
  rw [Z0Y (Nat.le_refl _), Nat.sub_self]
  unfold ZE
  rw [List.getD_eq_getElem?_getD, List.getElem?_append_right (by omega), Nat.sub_self]
  rfl
def QG (side : Int) (h : Z6) : YO := ⟨ZN side h.own, h.id, h.amount, h.hash, h.expiry⟩
def Zbj (b : Bool) (x : YO) : List YO := match b with
 | true => [x]
 | false => []
def YA (side : Int) (o : Bool) (L : List Z6) : List YO := (L.filter fun h => YZ h.own h.stage o).map (QG side)
def srP (side : Int) (o : Bool) (p : Int × Int) (h : Z6) : Int × Int := match YZ h.own h.stage o with
 | true => if ZN side h.own = 0 then (p.1 - h.amount, p.2) else (p.1, p.2 - h.amount)
 | false => if 6 < h.stage then XJ side p h else p
def Wx (side : Int) (o : Bool) (p : Int × Int) (L : List Z6) : Int × Int := L.foldl (srP side o) p
theorem Z4y {s a b q : Int} (hs : s = 0 ∨ s = 1) (h1 : -1152921504606846976 ≤ a ∧ a ≤ 1152921504606846976) (h2 : -1152921504606846976 ≤ b ∧ b ≤ 1152921504606846976) (h3 : 0 ≤ q ∧ q ≤ 1152921504606846976) :
  [a, b].set s.toNat (i64.wrap ([a, b].getD s.toNat 0 - q)) = [(if s = 0 then (a - q, b) else (a, b - q)).1, (if s = 0 then (a - q, b) else (a, b - q)).2] := by
 rcases hs with rfl | rfl
 ·show [i64.wrap (a - q), b] = [a - q, b]
  rw [w64 (by omega)]
 ·show [a, i64.wrap (b - q)] = [a, b - q]
  rw [w64 (by omega)]
noncomputable def Zdd : Zg := Z4r (G0.withP 54 Z9g)
theorem Z86 : Zdd.Ok := Zg.withP_ok (Zg.withP_ok (Zg.withP_ok (Zg.withP_ok (Zg.withP_ok Zw ZcY) Z13) QA) QB) QC
def srZ : List AV := [.int .i64 0, .int .i64 0, .arr .u8 32 Zd, .arr .i64 2 [0, 0], .nilslice]
def Zi2 (k ow : Int) (pt : List Int) (a b : Int) (P : List YO) : Z9 := ⟨4, [(0, .flat srZ), (1, .flat [.int .i64 k, .int .i64 ow, .arr .u8 32 pt, .arr .i64 2 [a, b], .nslice ⟨3, 0, 36, 0, 0⟩ 36 P.length P.length]), (2, .flat [.ptr (some ⟨1, 0, 0, 34, 0⟩)]), (3, .rows 36 P.length (ZE P))]⟩
def Zde (X : Za) (o : Bool) (k ow : Int) (pt : List Int) (n i : Nat) (a b : Int) (P : List YO) : St := ⟨99, [(41, .int .i64 i), (40, .int .i64 n), (39, .vrows 70 n (Z5 X.L) n), (0, Uu X), (1, .bool o), (10, .ptr (some ⟨1, 0, 0, 0, 0⟩)), (11, .func (.func 96) [] [.ptr (some ⟨2, 0, 0, 0, 0⟩)]), (8, .ptr (some ⟨0, 0, 0, 0, 0⟩))], Zi2 k ow pt a b P, []⟩
def Z79 (k ow : Int) (pt : List Int) (a b : Int) (P : List YO) : St := ⟨99, [(10, .ptr (some ⟨1, 0, 0, 0, 0⟩)), (8, .ptr (some ⟨0, 0, 0, 0, 0⟩))], ⟨3, [(0, .flat srZ), (1, .flat [.int .i64 k, .int .i64 ow, .arr .u8 32 pt, .arr .i64 2 [a, b], .nslice ⟨2, 0, 36, 0, 0⟩ 36 P.length P.length]), (2, .rows 36 P.length (ZE P))]⟩, []⟩
theorem Zi3 (X : Za) (o : Bool) (k ow : Int) (pt : List Int) (n i : Nat) (a b a1 b1 : Int) (P P1 : List YO) (x : Z6) (Z1 Z2 : Prop) (hn : n < 1000) (hL : X.L.length = n) (hi : i ≤ n) (hX : YG X) (hP : P.length < 1000) (hx : i < n → X.L.getD i Zc = x) (hP1 : i < n → P1 = P ++ Zbj (YZ x.own x.stage o) (QG X.side x)) (ha : i < n → (a1, b1) = srP X.side o (a, b) x) (hw : i < n → (-1152921504606846976 ≤ a ∧ a ≤ 1152921504606846976) ∧ (-1152921504606846976 ≤ b ∧ b ≤ 1152921504606846976) ∧ 0 ≤ x.amount ∧ x.amount ≤ 1152921504606846976) (hZ1 : i < n → Z1) (hZ2 : i = n → Z2) :
  ZI Zdd 20 16 1 0 (Zde X o k ow pt n i a b P) (rdM 0 1 9 (Zde X o k ow pt n (i + 1) a1 b1 P1) (Z79 k ow pt a b P) (Z79 k ow pt a b P) (Z79 k ow pt a b P) Z1 Z2 False False) := by
 refine @Eq.mpr _ (let q1 := X.L;
 let q2 := List.getD q1 (Int.toNat (↑i : Int)) Zc;
 let q3 := q2.own;
 let q4 := q2.stage;
 let q5 := YZ q3 q4 o;
 let q6 := List.length P;
 let q7 := decide (q6 = q6);
 let q8 := q6 + 1;
 let q9 := decide (q8 * 64 ≤ 140737488355328);
 let q10 := X.side;
 let q11 := decide (0 ≤ q10 ∧ q10 < 2);
 let q12 := 0 + Int.toNat q10;
 let q13 := decide (wrap i64 ((↑i : Int) + 1) = (↑(i + 1) : Int));
 let q14 := decide ((↑n : Int) = (↑n : Int));
 let q15 := decide (n = n);
 let q16 := Z5 q1;
 let q17 := q16 = q16;
 let q18 := List.length q1;
 let q19 := Za.c X (AV.vrows 70 q18 q16 q18);
 let q20 := q19 = q19;
 let q21 := decide (o = o);
 let q22 := [(0 : Int), 0];
 let q23 := q22 = q22;
 let q24 := decide (k = k);
 let q25 := decide (ow = ow);
 let q26 := [a, b];
 let q27 := q2.amount;
 let q28 := List.set q26 q12 (wrap i64 (List.getD q26 q12 0 - q27));
 let q29 := [a1, b1];
 let q30 := List.length P1;
 let q31 := decide (q8 = q30);
 let q32 := decide (q30 ≤ q8);
 let q33 := [(1, 1)];
 let q34 := (0, 0) :: (2, 2) :: q33;
 let q35 := (3, 6) :: q34;
 let q36 := ZE P1;
 let q37 := ZE P;
 let q38 := [AV.int i64 q2.id, AV.int i64 q27, AV.arr u8 32 q2.hash, AV.int i64 q2.expiry];
 let q39 := decide (q4 > 6);
 let q40 := q2.fin == 1;
 let q41 := wrap i64 (1 - q10);
 let q42 := decide (0 ≤ q41 ∧ q41 < 2);
 let q43 := 0 + Int.toNat q41;
 let q44 := decide (q43 < 2);
 let q45 := decide (q6 = q30);
 let q46 := Z0 q45 (Z0 (decide (q30 ≤ q6)) (Z0 q45 (Z8 0 ((3, 3) :: q34) q30 q36 q37 ∧ Z1) False) False) False;
 let q47 := Z0 q13 (Z0 q14 (Z0 q15 (q17 ∧ Z0 q15 (q20 ∧ Z0 q21 (Zd = Zd ∧ q23 ∧ Z0 q24 (Z0 q25 (pt = pt ∧ q26 = q29 ∧ q46) False) False) False) False) False) False) False;
 let q48 := List.set q26 q43 (wrap i64 (List.getD q26 q43 0 - q27));
 let q49 := wrap i64 (1 - q41);
 let q50 := decide (0 ≤ q49 ∧ q49 < 2);
 let q51 := 0 + Int.toNat q49;
 Z0 (decide ((↑i : Int) < (↑n : Int)))
 (Z0 (decide (0 ≤ (↑i : Int) ∧ (↑i : Int) < (↑n : Int)))
 (Z0 q3
 (Z0 q5 (Z0 q7 (Z0 q9 (Z0 q11 (Z0 (decide (q12 < 2)) (Z0 q11 (Z0 (decide (i64 = i64 ∧ q12 < 2 ∧ q12 < 2)) (Z0 q13 (Z0 q14 (Z0 q15 (q17 ∧ Z0 q15 (q20 ∧ Z0 q21 (Zd = Zd ∧ q23 ∧ Z0 q24 (Z0 q25 (pt = pt ∧ q28 = q29 ∧ Z0 q31 (Z0 q32 (Z0 q31 (Z8 0 q35 q30 q36 (ZV q6 q37 (YD (AV.int i64 q10 :: q38) 0 36)) ∧ Z1) False) False) False) False) False) False) False) False) False) False) False) False) False) False) False) False)
 (Z0 q39 (Z0 q40 (Z0 q11 (Z0 (decide (q12 < 2)) (Z0 q11 (Z0 (decide (i64 = i64 ∧ q12 < 2 ∧ q12 < 2)) (Z0 q42 (Z0 q44 (Z0 q42 (Z0 (decide (i64 = i64 ∧ q43 < 2 ∧ q43 < List.length q28)) (Z0 q13 (Z0 q14 (Z0 q15 (q17 ∧ Z0 q15 (q20 ∧ Z0 q21 (Zd = Zd ∧ q23 ∧ Z0 q24 (Z0 q25 (pt = pt ∧ List.set q28 q43 (wrap i64 (List.getD q28 q43 0 + q27)) = q29 ∧ q46) False) False) False) False) False) False) False) False) False) False) False) False) False) False) False) q47) q47))
 (Z0 q5 (Z0 q7 (Z0 q9 (Z0 q42 (Z0 (decide (q43 < 2)) (Z0 q42 (Z0 (decide (i64 = i64 ∧ q43 < 2 ∧ q43 < 2)) (Z0 q13 (Z0 q14 (Z0 q15 (q17 ∧ Z0 q15 (q20 ∧ Z0 q21 (Zd = Zd ∧ q23 ∧ Z0 q24 (Z0 q25 (pt = pt ∧ q48 = q29 ∧ Z0 q31 (Z0 q32 (Z0 q31 (Z8 0 q35 q30 q36 (ZV q6 q37 (YD (AV.int i64 q41 :: q38) 0 36)) ∧ Z1) False) False) False) False) False) False) False) False) False) False) False) False) False) False) False) False)
 (Z0 q39 (Z0 q40 (Z0 q42 (Z0 q44 (Z0 q42 (Z0 (decide (i64 = i64 ∧ q43 < 2 ∧ q43 < 2)) (Z0 q50 (Z0 (decide (q51 < 2)) (Z0 q50 (Z0 (decide (i64 = i64 ∧ q51 < 2 ∧ q51 < List.length q48)) (Z0 q13 (Z0 q14 (Z0 q15 (q17 ∧ Z0 q15 (q20 ∧ Z0 q21 (Zd = Zd ∧ q23 ∧ Z0 q24 (Z0 q25 (pt = pt ∧ List.set q48 q51 (wrap i64 (List.getD q48 q51 0 + q27)) = q29 ∧ q46) False) False) False) False) False) False) False) False) False) False) False) False) False) False) False) q47) q47)))
 False)
 (Zd = Zd ∧ q23 ∧ Z0 q24 (Z0 q25 (pt = pt ∧ q26 = q26 ∧ Z0 q7 (Z0 (decide (q6 ≤ q6)) (Z0 q7 (Z8 0 ((2, 3) :: (0, 0) :: q33) q6 q37 q37 ∧ Z2) False) False) False) False) False)) (by kernel_rfl) ?_
 conv => zeta
 try simp only [Zi]
 try simp only [Zj]
 try simp only [Zk]
 try simp only [Zl]
 try simp only [Zm]
 try simp only [Zh]
 try simp only [Int.toNat_natCast, Nat.zero_add, true_and, and_true, Nat.le_refl]
 refine ⟨fun hc => ?_, fun hc => ?_⟩
 ·have hlt : i < n := by omega
  rw [hx hlt]
  have hP1 := hP1 hlt
  have ha := ha hlt
  obtain ⟨b1', b2', b3'⟩ := hw hlt
  obtain ⟨s1, s2⟩ := hX
  have hab : [a1, b1] = [(srP X.side o (a, b) x).1, (srP X.side o (a, b) x).2] := by rw [← ha]
  have hwr : i64.wrap ((i : Int) + 1) = ((i + 1 : Nat) : Int) := by rw [w64 (by omega)]; omega
  have hwf : i64.wrap (1 - X.side) = 1 - X.side := w64 (by omega)
  have hwg : i64.wrap (1 - (1 - X.side)) = X.side := by rw [w64 (by omega)]; omega
  rw [hwr]
  try rw [hwf]
  try rw [hwg]
  have hR : ∀ τ k (Q : List YO), Z8 0 τ k (ZE Q) (ZE Q) := fun τ k Q => Xu fun _ _ => rfl
  have hC : ∀ τ (Q : List YO) (y : YO), Z8 0 τ (Q ++ [y]).length (ZE (Q ++ [y])) (ZV Q.length (ZE Q) (YD y.c 0 36)) := fun τ Q y => Xu fun j hj => Z0x (by simpa using hj)
  have e := Uo (s := X.side) (by omega) b1' b2' b3'
  have e' := Uo (s := 1 - X.side) (by omega) b1' b2' b3'
  rw [show 1 - (1 - X.side) = X.side by omega] at e'
  have k := Z4y (s := X.side) (by omega) b1' b2' b3'
  have k' := Z4y (s := 1 - X.side) (by omega) b1' b2' b3'
  refine ⟨by omega, fun ho => ⟨fun hst => ?_, fun hst => ⟨fun h6 => ⟨fun hf => ?_, fun hf => ?_⟩, fun h6 => ?_⟩⟩, fun ho => ⟨fun hst => ?_, fun hst => ⟨fun h6 => ⟨fun hf => ?_, fun hf => ?_⟩, fun h6 => ?_⟩⟩⟩
  all_goals unfold srP at hab
  all_goals rw [hst] at hab hP1
  all_goals simp only [Zbj, List.append_nil] at hP1
  all_goals try simp only [gt_iff_lt] at h6
  all_goals try rw [if_pos h6] at hab
  all_goals try rw [if_neg h6] at hab
  all_goals try have hf1 : x.fin = 1 := by simpa using hf
  all_goals try have hf0 : ¬ x.fin = 1 := by simpa using hf
  all_goals try rw [U0 (h := x) hf1] at hab
  all_goals try rw [QE (h := x) hf0] at hab
  all_goals try (have hy : QG X.side x = ⟨X.side, x.id, x.amount, x.hash, x.expiry⟩ := by unfold QG; rw [ho]; rfl)
  all_goals try (have hy : QG X.side x = ⟨1 - X.side, x.id, x.amount, x.hash, x.expiry⟩ := by unfold QG; rw [ho]; rfl)
  all_goals try rw [hy] at hP1
  all_goals subst hP1
  all_goals rw [hab]
  all_goals try rw [show ZN X.side x.own = X.side by rw [ho]; rfl]
  all_goals try rw [show ZN X.side x.own = 1 - X.side by rw [ho]; rfl]
  all_goals try rw [e]
  all_goals try rw [e']
  all_goals try rw [k]
  all_goals try rw [k']
  all_goals repeat' apply And.intro
  all_goals first | omega | rfl | exact hZ1 hlt | exact hC _ _ _ | exact hR _ _ _ | (simp; done) | (simp only [List.length_set, List.length_cons, List.length_nil, List.length_append]; omega) | (split <;> rfl) | skip
 ·repeat' apply And.intro
  all_goals first | omega | rfl | exact hZ2 (by omega) | exact Xu fun _ _ => rfl
theorem Zbk {side : Int} {o : Bool} {p : Int × Int} {x : Z6} {A B : Int} (hx : 0 ≤ x.amount ∧ x.amount ≤ 1125899906842624) (h1 : A ≤ p.1 ∧ p.1 ≤ B) (h2 : A ≤ p.2 ∧ p.2 ≤ B) : (A - 1125899906842624 ≤ (srP side o p x).1 ∧ (srP side o p x).1 ≤ B + 1125899906842624) ∧ A - 1125899906842624 ≤ (srP side o p x).2 ∧ (srP side o p x).2 ≤ B + 1125899906842624 := by
 unfold srP XJ
 split
 ·split <;> dsimp only <;> omega
 ·split
  ·split
   ·split <;> dsimp only <;> omega
   ·omega
  ·omega
theorem Z2D {side : Int} {o : Bool} {a b : Int} {L : List Z6} (hA : ∀ x ∈ L, 0 ≤ x.amount ∧ x.amount ≤ 1125899906842624) (ha : 0 ≤ a ∧ a ≤ 1125899906842624) (hb : 0 ≤ b ∧ b ≤ 1125899906842624) : ∀ i, i ≤ L.length → (0 - 1125899906842624 * (i : Int) ≤ (Wx side o (a, b) (L.take i)).1 ∧ (Wx side o (a, b) (L.take i)).1 ≤ 1125899906842624 * ((i : Int) + 1)) ∧ 0 - 1125899906842624 * (i : Int) ≤ (Wx side o (a, b) (L.take i)).2 ∧ (Wx side o (a, b) (L.take i)).2 ≤ 1125899906842624 * ((i : Int) + 1)
 | 0, _ => by
  show (_ ≤ a ∧ a ≤ _) ∧ _ ≤ b ∧ b ≤ _
  omega
 | i + 1, hi => by
  obtain ⟨h1, h2⟩ := Z2D (side := side) (o := o) hA ha hb i (by omega)
  have e : Wx side o (a, b) (L.take (i + 1)) = srP side o (Wx side o (a, b) (L.take i)) (L.getD i Zc) := by
   unfold Wx
   rw [Yb (by omega), List.foldl_append]; rfl
  rw [e]
  have := Zbk (side := side) (o := o) (hA _ (ZK (L := L) (i := i) (by omega))) h1 h2
  omega
def Zbl (X : Za) (n : Nat) : Prop := X.L.length = n ∧ n ≤ 16 ∧ (X.side = 0 ∨ X.side = 1) ∧ (∀ h ∈ X.L, 0 ≤ h.amount ∧ h.amount ≤ 1125899906842624) ∧ (0 ≤ X.a0 ∧ X.a0 ≤ 1125899906842624) ∧ 0 ≤ X.a1 ∧ X.a1 ≤ 1125899906842624
theorem Z3D (side : Int) (o : Bool) (A : List Z6) (x : Z6) : YA side o (A ++ [x]) = YA side o A ++ Zbj (YZ x.own x.stage o) (QG side x) := by
 unfold YA
 rw [List.filter_append, List.map_append, Vd]
 congr 1
 cases YZ x.own x.stage o <;> rfl
theorem Up (side : Int) (o : Bool) (A : List Z6) : (YA side o A).length ≤ A.length := by
 unfold YA; rw [List.length_map]; exact List.length_filter_le _ _
def Zdf (X : Za) (o : Bool) (k ow : Int) (pt : List Int) (n i : Nat) : St := Zde X o k ow pt n i (Wx X.side o (X.a0, X.a1) (X.L.take i)).1 (Wx X.side o (X.a0, X.a1) (X.L.take i)).2 (YA X.side o (X.L.take i))
def Zdg (X : Za) (o : Bool) (k ow : Int) (pt : List Int) (i : Nat) : St := Z79 k ow pt (Wx X.side o (X.a0, X.a1) (X.L.take i)).1 (Wx X.side o (X.a0, X.a1) (X.L.take i)).2 (YA X.side o (X.L.take i))
theorem Zi4 (X : Za) (o : Bool) (k ow : Int) (pt : List Int) (n i : Nat) (hC : Zbl X n) (hi : i ≤ n) : ZI Zdd 20 16 1 0 (Zdf X o k ow pt n i) (rdM 0 1 9 (Zdf X o k ow pt n (i + 1)) (Zdg X o k ow pt i) (Zdg X o k ow pt i) (Zdg X o k ow pt i) (i < n ∧ i < n) (i = n) False False) := by
 obtain ⟨h1, h2, h3, h4, h5, h6⟩ := id hC
 have hlt : i < n → i < X.L.length := fun h => by omega
 have l0 : (X.L.take i).length ≤ 16 := by rw [List.length_take]; omega
 have l1 := Up X.side o (X.L.take i)
 have hb := Z2D (side := X.side) (o := o) h4 h5 h6 i (by omega)
 refine Zi3 X o k ow pt n i _ _ _ _ _ _ (X.L.getD i Zc) (i < n ∧ i < n) (i = n) (by omega) h1 hi (show 0 ≤ X.side ∧ X.side ≤ 1 by omega) (by omega) (fun _ => rfl) (fun h => ?_) (fun h => ?_) (fun h => ⟨by omega, by omega, ?_⟩) (fun h => ⟨h, h⟩) (fun h => h)
 ·rw [Yb (hlt h), Z3D]
 ·unfold Wx
  rw [Yb (hlt h), List.foldl_append]; rfl
 ·have := h4 _ (ZK (hlt h)); omega
noncomputable def Z87 (X : Za) (o : Bool) (k ow : Int) (pt : List Int) (n : Nat) (C : Prop) (E : Nat → St) : Zg := Zdd.withL 16 1 (goM 0 (Zde X o k ow pt n 0 X.a0 X.a1 []) C (Yv 1 n 9 (fun i => i < n) (fun i => i = n) (fun _ => False) (fun _ => False) E E E))
theorem Zbm (X : Za) (o : Bool) (k ow : Int) (pt : List Int) (n : Nat) : (Z87 X o k ow pt n (Zbl X n) (Zdg X o k ow pt)).Ok :=
 Zg.withGoM (N := 20) (S := Zdf X o k ow pt n) Z86 (by kernel_rfl) fun hC => ⟨rfl, fun i hi _ => Zi4 X o k ow pt n i hC hi⟩
theorem Zi5 (X : Za) (o : Bool) (k ow : Int) (pt : List Int) (n l : Nat) (a b : Int) (P : List YO) (C : Prop) (AF BF : Nat → Int) (PF : Nat → List YO) (hC : C) (hn : X.L.length = n) (hcap : X.t.cap ≠ 0) (hs : 0 ≤ X.side ∧ X.side ≤ 1) (hk : 0 ≤ k ∧ k ≤ 2147483647) (how : ow = ZN X.side o) (ha : a = AF n) (hb : b = BF n) (hP : P = PF n) (hl : l = P.length) :
  evF (Z87 X o k ow pt n C fun i => Z79 k ow pt (AF i) (BF i) (PF i)) 20 16 [Uu X, .bool o, .int .i64 k, .agg [.arr .u8 32 pt]] ⟨0, []⟩ (YQ 0 (.ret (.tuple [.agg [.int .i64 k, .int .i64 ow, .arr .u8 32 pt, .arr .i64 2 [a, b], .nslice ⟨0, 0, 36, 0, 0⟩ 36 l l], .int .i64 0])) 1 [(0, .rows 36 l (ZE P))]) := by
 refine @Eq.mpr _ (let q1 := [(0 : Int), 0];
 let q2 := [a, b];
 let q3 := decide (l = 0);
 let q4 := Z0 (decide (0 = k)) (Z0 (decide (0 = ow)) (Zd = pt ∧ q1 = q2 ∧ Z0 q3 (Z0 q3 False False) False) False) False;
 let q5 := [X.a0, X.a1];
 let q6 := q5 = q5;
 let q7 := List.length X.L;
 let q8 := decide ((↑q7 : Int) = (↑n : Int));
 let q9 := decide (q7 = n);
 let q10 := Z5 X.L;
 let q11 := q10 = q10;
 let q12 := Za.c X (AV.vrows 70 q7 q10 q7);
 let q13 := q12 = q12;
 let q14 := decide (o = o);
 let q15 := q1 = q1;
 let q16 := decide (k = k);
 let q17 := pt = pt ∧ q6 ∧ C ∧ ∀ (i : Nat), i ≤ n → (∀ (j : Nat), j < i → (fun (i : Nat) => i < n) j) → (i = n → Z0 q16 (Z0 (decide (ow = ow)) (pt = pt ∧ [AF i, BF i] = q2 ∧ Z0 (decide (List.length (PF i) = l)) (Z0 (decide (l ≤ List.length (PF i))) (Z0 (decide (List.length (PF i) = l)) (Z8 0 [(0, 2)] l (ZE P) (ZE (PF i)) ∧ True) False) False) False) False) False) ∧ (False → False) ∧ (False → False);
 Z0 (X.t.cap == 0) q4 (Z0 (!decide (0 ≤ k ∧ k ≤ 2147483647)) q4 (Z0 o (q6 ∧ pt = pt ∧ Z0 q8 (Z0 q9 (q11 ∧ Z0 q9 (q13 ∧ Z0 q14 (Zd = Zd ∧ q15 ∧ Z0 q16 (Z0 (decide (X.side = ow)) q17 False) False) False) False) False) False) (q6 ∧ pt = pt ∧ Z0 q8 (Z0 q9 (q11 ∧ Z0 q9 (q13 ∧ Z0 q14 (Zd = Zd ∧ q15 ∧ Z0 q16 (Z0 (decide (wrap i64 (1 - X.side) = ow)) q17 False) False) False) False) False) False)))) (by kernel_rfl) ?_
 conv => zeta
 try simp only [Zi]
 try simp only [Zj]
 try simp only [Zk]
 try simp only [Zl]
 try simp only [Zm]
 try simp only [Zh]
 try simp only [Int.toNat_natCast, Nat.zero_add, true_and, and_true, Nat.le_refl]
 subst ha hb hP
 have hwf : i64.wrap (1 - X.side) = 1 - X.side := w64 (by omega)
 rw [hwf]
 have main : ∀ i : Nat, i ≤ n → (∀ j : Nat, j < i → j < n) → (i = n → [AF i, BF i] = [AF n, BF n] ∧ (PF i).length = l ∧ l ≤ (PF i).length ∧ (PF i).length = l ∧ Z8 0 [(0, 2)] l (ZE (PF n)) (ZE (PF i))) ∧ (False → False) ∧ (False → False) := fun i hi _ => ⟨fun he => by
  subst he
  exact ⟨rfl, hl.symm, Nat.le_of_eq hl, hl.symm, Xu fun _ _ => rfl⟩, fun h => h, fun h => h⟩
 refine ⟨fun h => absurd h (by simpa using hcap), fun _ => ⟨fun h => absurd h (by simp [hk.1, hk.2]), fun _ => ⟨fun ho => ?_, fun ho => ?_⟩⟩⟩
 ·exact ⟨by rw [hn], hn, hn, by rw [how, ho]; rfl, hC, main⟩
 ·exact ⟨by rw [hn], hn, hn, by rw [how, ho]; rfl, hC, main⟩
theorem Zi6 (X : Za) (o : Bool) (k ow : Int) (pt : List Int) (n : Nat) (C : Prop) (hcap : X.t.cap ≠ 0) (hk : ¬ (0 ≤ k ∧ k ≤ 2147483647)) :
  evF (Z87 X o k ow pt n C fun i => Z79 k ow pt 0 0 []) 20 16 [Uu X, .bool o, .int .i64 k, .agg [.arr .u8 32 pt]] ⟨0, []⟩ (Yp fun v => v = .tuple [.agg srZ, .int .i64 2]) := by
 refine @Eq.mpr _ (let q1 := [(0 : Int), 0];
 let q2 := AV.agg [AV.int i64 0, AV.int i64 0, AV.arr u8 32 Zd, AV.arr i64 2 q1, AV.nilslice];
 let q3 := [AV.int i64 2];
 let q4 := AV.tuple (AV.agg srZ :: q3);
 let q5 := [X.a0, X.a1];
 let q6 := q5 = q5;
 let q7 := List.length X.L;
 let q8 := decide ((↑q7 : Int) = (↑n : Int));
 let q9 := decide (q7 = n);
 let q10 := Z5 X.L;
 let q11 := q10 = q10;
 let q12 := Za.c X (AV.vrows 70 q7 q10 q7);
 let q13 := q12 = q12;
 let q14 := decide (o = o);
 let q15 := q1 = q1;
 let q16 := decide (k = k);
 let q17 := pt = pt ∧ q6 ∧ C ∧ ∀ (i : Nat), i ≤ n → (∀ (j : Nat), j < i → (fun (i : Nat) => i < n) j) → (i = n → False) ∧ (False → False) ∧ (False → False);
 Z0 (X.t.cap == 0) (AV.tuple [q2, AV.int i64 1] = q4) (Z0 (!decide (0 ≤ k ∧ k ≤ 2147483647)) (AV.tuple (q2 :: q3) = q4) (Z0 o (q6 ∧ pt = pt ∧ Z0 q8 (Z0 q9 (q11 ∧ Z0 q9 (q13 ∧ Z0 q14 (Zd = Zd ∧ q15 ∧ Z0 q16 (Z0 (decide (X.side = ow)) q17 False) False) False) False) False) False) (q6 ∧ pt = pt ∧ Z0 q8 (Z0 q9 (q11 ∧ Z0 q9 (q13 ∧ Z0 q14 (Zd = Zd ∧ q15 ∧ Z0 q16 (Z0 (decide (wrap i64 (1 - X.side) = ow)) q17 False) False) False) False) False) False)))) (by kernel_rfl) ?_
 conv => zeta
 try simp only [Zi]
 try simp only [Zj]
 try simp only [Zk]
 try simp only [Zl]
 try simp only [Zm]
 try simp only [Zh]
 try simp only [Int.toNat_natCast, Nat.zero_add, true_and, and_true, Nat.le_refl]
 refine ⟨fun h => absurd h (by simpa using hcap), fun _ => ⟨fun _ => rfl, fun h => absurd h ?_⟩⟩
 rw [decide_eq_false hk]; simp
theorem Za.Inv.sr {H : List Int → List Int} {X : Za} (h : X.Inv H) : Zbl X X.L.length :=
 ⟨rfl, h.len, h.side, h.am.am, by have := h.a0; have := ZZ h.tb; omega, by have := h.a0; have := h.a1; have := ZZ h.tb; omega⟩
def Z0M (X : Za) (o : Bool) : Int × Int := Wx X.side o (X.a0, X.a1) X.L
def Z4z (c : Bool) : YR := fun args h K => ZY none h true 20 args fun a => match a with
 | [.pview cs 0, .bool o, .int .i64 k, .agg [.arr .u8 32 pt]] => ∃ X, LV cs X ∧ X.Inv Zq ∧ (match c with
  | true => (0 ≤ k ∧ k ≤ 2147483647) ∧ K (.ret (.tuple [.agg [.int .i64 k, .int .i64 (ZN X.side o), .arr .u8 32 pt, .arr .i64 2 [(Z0M X o).1, (Z0M X o).2], .nslice ⟨h.next, 0, 36, 0, 0⟩ 36 (YA X.side o X.L).length (YA X.side o X.L).length], .int .i64 0])) ⟨h.next + 1, (h.next, .rows 36 (YA X.side o X.L).length (ZE (YA X.side o X.L))) :: h.bs⟩
  | false => ¬ (0 ≤ k ∧ k ≤ 2147483647) ∧ K (.ret (.tuple [.agg srZ, .int .i64 2])) ⟨h.next, h.bs⟩)
 | _ => False
theorem Z2E (c : Bool) (args : List AV) (h : Z9) (K : KO) (hl : Z4z c args h K) : Zo PP 16 args h K := by
 refine ZH.fsumm (d := 20) (Zx _ _ _ _ _ hl fun a ha => ?_)
 split at ha
 ·rename_i cs o k pt
  obtain ⟨X, hX, hI, hK⟩ := ha
  cases c with
  | true =>
   obtain ⟨hk, hK1⟩ := hK
   have hv := Zi5 X o k (ZN X.side o) pt X.L.length _ (Z0M X o).1 (Z0M X o).2 (YA X.side o X.L) (Zbl X X.L.length) (fun i => (Wx X.side o (X.a0, X.a1) (X.L.take i)).1) (fun i => (Wx X.side o (X.a0, X.a1) (X.L.take i)).2) (fun i => YA X.side o (X.L.take i)) hI.sr rfl (Wh hI.tb) (by have := hI.side; omega) hk rfl (by rw [List.take_length]; rfl) (by rw [List.take_length]; rfl) (by rw [List.take_length]) rfl
   exact ⟨_, _, _, _, (ZH.evM (Zbm X o k _ pt _) hv).conv fun E r hr => hr.head (fun _ hc => Vo hX hc) fun _ hc => hc, rfl, ⟨Nat.one_pos, .rows _ _ _ (fun i _ => Vs _ i), trivial⟩, hK1⟩
  | false =>
   obtain ⟨hk, hK2⟩ := hK
   have hC : (Z87 X o k 0 pt X.L.length False fun _ => Z79 k 0 pt 0 0 []).Ok := Zg.withGoM (N := 20) (S := fun i => Zdf X o k 0 pt X.L.length i) Z86 (by kernel_rfl) fun h => h.elim
   exact ⟨_, _, _, _, (ZH.evV hC (Zi6 X o k 0 pt _ False (Wh hI.tb) hk)).conv fun E r hr => hr.head (fun _ hc => Vo hX hc) fun _ hc => hc, rfl, trivial, hK2⟩
 ·exact ha.elim
end Go.Tk
end
section
namespace Go.Tk
open IntKind (i64 u8 u32 u64 wrap)
end Go.Tk
end
section
namespace Go.Tk
open IntKind (i64 u8 u32 u64 wrap)
end Go.Tk
end
section
namespace Go.Tk
open IntKind (i64 u8 u32 u64 wrap)
end Go.Tk
end
section
namespace Go.Tk
open IntKind (i64 u8 u32 u64 wrap)
end Go.Tk
end
section
namespace Go.Tk
open IntKind (i64 u8 u32 u64 wrap)
def Z0N (side s : Int) (p : Int × Nat) (h : Z6) : Int × Nat := if ZN side h.own = s ∧ p.1 ≤ 1125899906842624 then (p.1 + h.amount, p.2 + 1) else p
def offD (side s : Int) (L : List Z6) : Int × Nat := L.foldl (Z0N side s) (0, 0)
theorem Uq {α β : Type} (g : β → α → β) (d : α) {L : List α} {i : Nat} (hi : i < L.length) (b : β) : (L.take (i + 1)).foldl g b = g ((L.take i).foldl g b) (L.getD i d) := by
 rw [List.take_succ_eq_append_getElem hi, List.foldl_append, List.getD_eq_getElem?_getD, List.getElem?_eq_getElem hi]; rfl
theorem Z3E {side s : Int} {L : List Z6} (hA : ∀ h ∈ L, 0 ≤ h.amount ∧ h.amount ≤ 1125899906842624) : ∀ i, i ≤ L.length → (0 ≤ (offD side s (L.take i)).1 ∧ (offD side s (L.take i)).1 ≤ 2251799813685248) ∧ (offD side s (L.take i)).2 ≤ i
 | 0, _ => by simp [offD]
 | i + 1, hi => by
  obtain ⟨h1, h2⟩ := Z3E (side := side) (s := s) hA i (by omega)
  unfold offD at *
  rw [Uq (Z0N side s) Zc (by omega)]
  generalize List.foldl (Z0N side s) (0, 0) (L.take i) = p at *
  have := hA _ (ZK (L := L) (i := i) (by omega))
  unfold Z0N
  split
  ·rename_i hc
   constructor <;> dsimp only <;> omega
  ·omega
def Zdh (X : Za) (s : Int) (n i : Nat) (a : Int) (c : Nat) : St := ⟨42, [(8, .int .i64 i), (2, .ptr (some ⟨0, 0, 0, 0, 0⟩)), (1, .int .i64 s), (6, .int .i64 a), (7, .int .i64 c)], ⟨1, [(0, .flat (X.c (.vrows 70 n (Z5 X.L) n)))]⟩, []⟩
def Zbn (a : Int) (c : Nat) : St := ⟨42, [(6, .int .i64 a), (7, .int .i64 c)], ⟨0, []⟩, []⟩
theorem Zi7 (X : Za) (s : Int) (n i : Nat) (x : Z6) (a a1 : Int) (c c1 : Nat) (Z1 Z2 : Prop) (hn : n < 1000) (hL : X.L.length = n) (hi : i ≤ n) (hX : YG X) (hx : i < n → X.L.getD i Zc = x) (ha : i < n → (0 ≤ a ∧ a ≤ 2251799813685248) ∧ 0 ≤ x.amount ∧ x.amount ≤ 1125899906842624) (hc : i < n → c < 1000) (h1 : i < n → (a1, c1) = Z0N X.side s (a, c) x) (hZ1 : i < n → Z1) (hZ2 : i = n → Z2) :
  ZI G0 20 81 0 0 (Zdh X s n i a c) (rdM 0 0 9 (Zdh X s n (i + 1) a1 c1) (Zbn a c) (Zbn a c) (Zbn a c) Z1 Z2 False False) := by
 refine @Eq.mpr _ (let q1 := decide (0 ≤ (↑i : Int) ∧ (↑i : Int) < (↑n : Int));
 let q2 := List.getD X.L (Int.toNat (↑i : Int)) Zc;
 let q3 := X.side;
 let q4 := decide (wrap i64 ((↑i : Int) + 1) = (↑(i + 1) : Int));
 let q5 := decide (s = s);
 let q6 := X.t;
 let q7 := q6.fund;
 let q8 := q6.index;
 let q9 := q6.cap;
 let q10 := q6.dust;
 let q11 := q6.fee;
 let q12 := q6.delay;
 let q13 := q6.k0;
 let q14 := q6.k1;
 let q15 := [X.a0, X.a1];
 let q16 := [X.i0, X.i1];
 let q17 := decide (n = n);
 let q18 := Z5 X.L;
 let q19 := q7 = q7 ∧ Z0 (decide (q8 = q8)) (Z0 (decide (q9 = q9)) (Z0 (decide (q10 = q10)) (Z0 (decide (q11 = q11)) (Z0 (decide (q12 = q12)) (q13 = q13 ∧ q14 = q14 ∧ Z0 (decide (q3 = q3)) (Z0 (decide (X.res = X.res)) (q15 = q15 ∧ q16 = q16 ∧ Z0 q17 (q18 = q18 ∧ Z0 q17 Z1 False) False) False) False) False) False) False) False) False;
 let q20 := Z0 q4 (Z0 q5 (Z0 (decide (a = a1)) (Z0 (decide ((↑c : Int) = (↑c1 : Int))) q19 False) False) False) False;
 let q21 := Z0 (decide (a ≤ 1125899906842624)) (Z0 q1 (Z0 q4 (Z0 q5 (Z0 (decide (wrap i64 (a + q2.amount) = a1)) (Z0 (decide (wrap i64 ((↑c : Int) + 1) = (↑c1 : Int))) q19 False) False) False) False) False) q20;
 Z0 (decide ((↑i : Int) < (↑n : Int))) (Z0 q1 (Z0 q2.own (Z0 (q3 == s) q21 q20) (Z0 (wrap i64 (1 - q3) == s) q21 q20)) False) (Z0 (decide (a = a)) (Z0 (decide ((↑c : Int) = (↑c : Int))) Z2 False) False)) (by kernel_rfl) ?_
 conv => zeta
 try simp only [Zi]
 try simp only [Zj]
 try simp only [Zk]
 try simp only [Zl]
 try simp only [Zm]
 try simp only [Zh]
 try simp only [Int.toNat_natCast, Nat.zero_add, true_and, and_true, Nat.le_refl]
 refine ⟨fun hc' => ?_, fun hc' => hZ2 (by omega)⟩
 have hlt : i < n := by omega
 rw [hx hlt]
 obtain ⟨s1, s2⟩ := hX
 have ha := ha hlt
 have hc := hc hlt
 have h1 := h1 hlt
 have hwr : i64.wrap ((i : Int) + 1) = ((i + 1 : Nat) : Int) := by rw [w64 (by omega)]; omega
 have hwf : i64.wrap (1 - X.side) = 1 - X.side := w64 (by omega)
 have hwa : i64.wrap (a + x.amount) = a + x.amount := w64 (by omega)
 have hwc : i64.wrap ((c : Int) + 1) = (c : Int) + 1 := w64 (by omega)
 rw [hwr, hwf, hwa, hwc]
 unfold Z0N at h1
 refine ⟨by omega, fun ho => ⟨fun hq => ⟨fun hm => ?_, fun hm => ?_⟩, fun hq => ?_⟩, fun ho => ⟨fun hq => ⟨fun hm => ?_, fun hm => ?_⟩, fun hq => ?_⟩⟩
 all_goals rw [ho] at h1
 all_goals simp only [ZN] at h1
 all_goals try (have hq : ¬ X.side = s := by simpa using hq)
 all_goals try (have hq : X.side = s := by simpa using hq)
 all_goals try (have hq : ¬ 1 - X.side = s := by simpa using hq)
 all_goals try (have hq : 1 - X.side = s := by simpa using hq)
 all_goals first | simp only [hq, hm, true_and, false_and, and_true, and_false, if_true, if_false, not_false_iff] at h1 | simp only [hq, true_and, false_and, if_true, if_false] at h1
 all_goals simp only [Prod.mk.injEq] at h1
 all_goals obtain ⟨e1, e2⟩ := h1
 all_goals repeat' apply And.intro
 all_goals first | omega | exact hZ1 hlt | rfl
def Zdi (X : Za) (n : Nat) : Prop := X.L.length = n ∧ n < 1000 ∧ YG X ∧ ∀ h ∈ X.L, 0 ≤ h.amount ∧ h.amount ≤ 1125899906842624
noncomputable def Zgs (X : Za) (s : Int) (n : Nat) (C : Prop) (E : Nat → St) : Zg := G0.withL 81 0 (goM 0 (Zdh X s n 0 0 0) C (Yv 0 n 9 (fun i => i < n) (fun i => i = n) (fun _ => False) (fun _ => False) E E E))
theorem Zdj (X : Za) (s : Int) (n : Nat) : (Zgs X s n (Zdi X n) (fun i => Zbn (offD X.side s (X.L.take i)).1 (offD X.side s (X.L.take i)).2)).Ok := by
 refine Zg.withGoM (N := 20) (S := fun i => Zdh X s n i (offD X.side s (X.L.take i)).1 (offD X.side s (X.L.take i)).2) Zw (by kernel_rfl) fun hC => ⟨rfl, fun i hi _ => ?_⟩
 obtain ⟨h1, h2, h3, h4⟩ := hC
 have hlt : i < n → i < X.L.length := fun h => by omega
 obtain ⟨b1, b2⟩ := Z3E (side := X.side) (s := s) h4 i (by omega)
 refine Zi7 X s n i (X.L.getD i Zc) _ _ _ _ _ _ h2 h1 hi h3 (fun _ => rfl) (fun h => ⟨b1, h4 _ (ZK (hlt h))⟩) (fun h => by omega) (fun h => ?_) (fun h => ⟨h, h⟩) (fun h => h)
 show offD X.side s (X.L.take (i + 1)) = _
 unfold offD
 rw [Uq (Z0N X.side s) Zc (hlt h)]
theorem Zi8 (X : Za) (s : Int) (n : Nat) (a : Int) (c : Nat) (C : Prop) (AF : Nat → Int) (CF : Nat → Nat) (hC : C) (hn : X.L.length = n) (ha : a = AF n) (hc : c = CF n) :
  evF (Zgs X s n C fun i => Zbn (AF i) (CF i)) 20 81 [.agg (X.c (.vrows 70 n (Z5 X.L) n)), .int .i64 s] ⟨0, []⟩ (Yp (fun v => v = .tuple [.int .i64 a, .int .i64 c])) := by
 refine @Eq.mpr _ (let q1 := X.t;
 let q2 := q1.fund;
 let q3 := q1.index;
 let q4 := q1.cap;
 let q5 := q1.dust;
 let q6 := q1.fee;
 let q7 := q1.delay;
 let q8 := q1.k0;
 let q9 := q1.k1;
 let q10 := [X.a0, X.a1];
 let q11 := [X.i0, X.i1];
 let q12 := decide (n = n);
 let q13 := Z5 X.L;
 Z0 (decide (s = s)) (q2 = q2 ∧ Z0 (decide (q3 = q3)) (Z0 (decide (q4 = q4)) (Z0 (decide (q5 = q5)) (Z0 (decide (q6 = q6)) (Z0 (decide (q7 = q7)) (q8 = q8 ∧ q9 = q9 ∧ Z0 (decide (X.side = X.side)) (Z0 (decide (X.res = X.res)) (q10 = q10 ∧ q11 = q11 ∧ Z0 q12 (q13 = q13 ∧ Z0 q12 (C ∧ ∀ (i : Nat), i ≤ n → (∀ (j : Nat), j < i → (fun (i : Nat) => i < n) j) → (i = n → AV.tuple [AV.int i64 (AF i), AV.int i64 ↑(CF i)] = AV.tuple [AV.int i64 a, AV.int i64 ↑c]) ∧ (False → False) ∧ (False → False)) False) False) False) False) False) False) False) False) False) False) (by kernel_rfl) ?_
 conv => zeta
 try simp only [Zi]
 try simp only [Zj]
 try simp only [Zk]
 try simp only [Zl]
 try simp only [Zm]
 try simp only [Zh]
 try simp only [Int.toNat_natCast, Nat.zero_add, true_and, and_true, Nat.le_refl]
 refine ⟨hC, fun i _ _ => ⟨fun he => ?_, fun h => h, fun h => h⟩⟩
 rw [he, ha, hc]
def Z9i (X : Za) : AV := .agg (X.c (.vrows 70 X.L.length (Z5 X.L) X.L.length))
theorem Qb {cs : List AV} {X : Za} (h : LV cs X) {E : Env} {r : Value} (hc : Zf E (.agg cs) r) : Zf E (Z9i X) r := by
 cases hc with
 | agg cs vs hc => exact .agg _ _ (Z7T h hc)
def Zgt : ZU := fun args h K => ZY none h true 20 args fun a => match a with
 | [.agg cs, .int .i64 s] => ∃ X, LV cs X ∧ Zdi X X.L.length ∧ K (.tuple [.int .i64 (offD X.side s X.L).1, .int .i64 (offD X.side s X.L).2])
 | _ => False
theorem Zbo (args : List AV) (h : Z9) (K : AV → Prop) (hl : Zgt args h K) : Zo PP 81 args h fun o h' => ∃ v, o = .ret v ∧ h' = h ∧ K v := by
 refine ZH.psumm (d := 20) (Zx _ _ _ _ _ hl fun a ha => ?_)
 split at ha
 ·rename_i cs s
  obtain ⟨X, hX, h1, hK⟩ := ha
  have hv := Zi8 X s X.L.length (offD X.side s X.L).1 (offD X.side s X.L).2 (Zdi X X.L.length) (fun i => (offD X.side s (X.L.take i)).1) (fun i => (offD X.side s (X.L.take i)).2) h1 rfl (by rw [List.take_length]) (by rw [List.take_length])
  exact ⟨_, (ZH.evV (Zdj X s _) hv).conv fun E r hr => hr.head (fun _ hc => Qb hX hc) fun _ hc => hc, fun _ => rfl, hK⟩
 ·exact ha.elim
theorem Z0c {side s : Int} : ∀ (L : List Z6) (p : Int × Nat), (∀ h ∈ L, 0 ≤ h.amount) → p.1 + ZD side s L ≤ 1125899906842624 → L.foldl (Z0N side s) p = (p.1 + ZD side s L, p.2 + Yk side s L)
 | [], p, _, _ => by simp [ZD, Yk, ZO, Xv]
 | x :: r, p, hA, hp => by
  have hr := Xb (side := side) (s := s) (G := r) fun z hz => hA z (by simp [hz])
  have hx := hA x (by simp)
  rw [ZJ] at hp
  rw [List.foldl_cons, ZJ, Y0]
  unfold Uv at hp ⊢
  unfold U1
  by_cases hf : ZN side x.own = s
  ·rw [if_pos hf] at hp ⊢
   rw [if_pos hf]
   have e : Z0N side s p x = (p.1 + x.amount, p.2 + 1) := by unfold Z0N; rw [if_pos ⟨hf, by omega⟩]
   rw [e, Z0c r _ (fun z hz => hA z (by simp [hz])) (by dsimp only; omega)]
   simp only [Prod.mk.injEq]; omega
  ·rw [if_neg hf] at hp ⊢
   rw [if_neg hf]
   have e : Z0N side s p x = p := by unfold Z0N; rw [if_neg (fun h => hf h.1)]
   rw [e, Z0c r _ (fun z hz => hA z (by simp [hz])) (by omega)]
   simp only [Prod.mk.injEq]; omega
theorem Za.Inv.offs {H : List Int → List Int} {X : Za} (h : X.Inv H) : ZD X.side 0 X.L ≤ 1125899906842624 ∧ ZD X.side 1 X.L ≤ 1125899906842624 := by
 have o0 := h.ov0
 have tb := ZZ h.tb
 have hr := h.res
 have ha0 := h.a0
 have ha1 := h.a1
 rw [Xa, if_pos rfl, show X.am 0 = X.a0 from rfl] at o0
 refine ⟨by omega, ?_⟩
 rcases h.ov1 with k | k
 ·rw [Q7 k]; omega
 ·rw [Xa, if_neg (by decide), show X.am 1 = X.a1 from rfl] at k
  omega
theorem Za.Inv.offD {H : List Int → List Int} {X : Za} (h : X.Inv H) {s : Int} (hs : s = 0 ∨ s = 1) : offD X.side s X.L = (ZD X.side s X.L, (ZO X.side s X.L).length) := by
 have ho := h.offs
 unfold Go.Tk.offD
 rw [Z0c X.L (0, 0) (fun z hz => (h.am.am z hz).1) (by rcases hs with rfl | rfl <;> dsimp only <;> omega)]
 simp only [Int.zero_add, Nat.zero_add]; rfl
theorem Za.Inv.od {H : List Int → List Int} {X : Za} (h : X.Inv H) : Zdi X X.L.length := ⟨rfl, h.am.n, by have := h.side; exact ⟨by omega, by omega⟩, h.am.am⟩
def Zbp : ZU := fun args h K => ZY none h true 20 args fun a => match a with
 | [.agg cs, .int .i64 s] => ∃ X, LV cs X ∧ X.Inv Zq ∧ (s = 0 ∨ s = 1) ∧ K (.tuple [.int .i64 (ZD X.side s X.L), .int .i64 (ZO X.side s X.L).length])
 | _ => False
theorem Z5L (args : List AV) (h : Z9) (K : AV → Prop) (hl : Zbp args h K) : Zo PP 81 args h fun o h' => ∃ v, o = .ret v ∧ h' = h ∧ K v := by
 refine Zbo args h K (Zx _ _ _ _ _ hl fun a ha => ?_)
 split at ha
 ·obtain ⟨X, hX, hI, hs, hK⟩ := ha
  refine ⟨X, hX, hI.od, ?_⟩
  rw [hI.offD hs]; exact hK
 ·exact ha.elim
noncomputable def Zec : Zg := G0.withP 81 Zbp
theorem Zbq : Zec.Ok := Zg.withP_ok Zw Z5L
theorem Zgu (X : Za) (s r : Int) (hs : s = 0 ∨ s = 1) (hI : X.Inv Zq) (hr : r = Ya X s) :
  evF Zec 20 82 [Z9i X, .int .i64 s] ⟨0, []⟩ (Yp (fun v => v = .int .i64 r)) := by
 refine @Eq.mpr _ (let q1 := X.t;
 let q2 := q1.fee;
 let q3 := [X.a0, X.a1];
 let q4 := List.length X.L;
 let q5 := 0 + Int.toNat s;
 ∃ (X_1 : Za),
 let q11 := wrap i64 (wrap i64 (List.getD q3 q5 0 - ZD X_1.side s X_1.L) - X.res);
 LV [AV.arr u8 32 q1.fund, AV.int i64 q1.index, AV.int i64 q1.cap, AV.int i64 q1.dust, AV.int i64 q2, AV.int i64 q1.delay, AV.arr u8 32 q1.k0, AV.arr u8 32 q1.k1, AV.int i64 X.side, AV.int i64 X.res, AV.arr i64 2 q3, AV.arr i64 2 [X.i0, X.i1], AV.vrows 70 q4 (Z5 X.L) q4] X_1 ∧ Za.Inv Zq X_1 ∧ (s = 0 ∨ s = 1) ∧ Z0 (decide (0 ≤ s ∧ s < 2)) (Z0 (decide (q5 < 2)) (Z0 (s == 0) (AV.int i64 (wrap i64 (q11 - q2)) = AV.int i64 r) (AV.int i64 q11 = AV.int i64 r)) False) False) (by kernel_rfl) ?_
 conv => zeta
 try simp only [Zi]
 try simp only [Zj]
 try simp only [Zk]
 try simp only [Zl]
 try simp only [Zm]
 try simp only [Zh]
 try simp only [Int.toNat_natCast, Nat.zero_add, true_and, and_true, Nat.le_refl]
 have tb := ZZ hI.tb
 have hres := hI.res
 have ha0 := hI.a0
 have ha1 := hI.a1
 have ho := hI.offs
 have n0 := Xb (side := X.side) (s := 0) fun z hz => (hI.am.am z hz).1
 have n1 := Xb (side := X.side) (s := 1) fun z hz => (hI.am.am z hz).1
 refine ⟨X, .a rfl, hI, hs, by omega, by omega, fun h => ?_, fun h => ?_⟩
 ·have h0 : s = 0 := by simpa using h
  subst h0
  rw [hr, Xa, if_pos rfl]
  show AV.int .i64 (i64.wrap (i64.wrap (i64.wrap (X.a0 - _) - _) - _)) = AV.int .i64 (X.a0 - _ - _ - _)
  rw [w64 (x := X.a0 - ZD X.side 0 X.L) (by omega), w64 (x := X.a0 - ZD X.side 0 X.L - X.res) (by omega), w64 (by omega)]
 ·have h0 : s = 1 := by
   have : ¬ s = 0 := by simpa using h
   omega
  subst h0
  rw [hr, Xa, if_neg (by decide)]
  show AV.int .i64 (i64.wrap (i64.wrap (X.a1 - _) - _)) = AV.int .i64 (X.a1 - _ - _ - 0)
  rw [w64 (x := X.a1 - ZD X.side 1 X.L) (by omega), w64 (by omega), Int.sub_zero]
def Zgv : ZU := fun args h K => ZY none h true 20 args fun a => match a with
 | [.agg cs, .int .i64 s] => ∃ X, LV cs X ∧ X.Inv Zq ∧ (s = 0 ∨ s = 1) ∧ K (.int .i64 (Ya X s))
 | _ => False
theorem Zdk (args : List AV) (h : Z9) (K : AV → Prop) (hl : Zgv args h K) : Zo PP 82 args h fun o h' => ∃ v, o = .ret v ∧ h' = h ∧ K v := by
 refine ZH.psumm (d := 20) (Zx _ _ _ _ _ hl fun a ha => ?_)
 split at ha
 ·obtain ⟨X, hX, hI, hs, hK⟩ := ha
  exact ⟨_, (ZH.evV Zbq (Zgu X _ _ hs hI rfl)).conv fun E r hr => hr.head (fun _ hc => Qb hX hc) fun _ hc => hc, fun _ => rfl, hK⟩
 ·exact ha.elim
def Zdl (X : Za) (own : Bool) (id : Int) (n i : Nat) : St := ⟨34, [(7, .int .i64 i), (3, pt 0), (1, .bool own), (2, .int .i64 id)], ⟨1, [(0, .flat (X.c (.vrows 70 n (Z5 X.L) n)))]⟩, []⟩
def Zgw : St := ⟨34, [], ⟨0, []⟩, []⟩
def Zdm (i : Nat) : St := ⟨34, [(6, .int .i64 i)], ⟨0, []⟩, []⟩
theorem Zgx (X : Za) (own : Bool) (id : Int) (n i : Nat) (Z1 Z2 Z3 : Prop) (hn : n < 1000) (hL : X.L.length = n) (hi : i ≤ n) (h1 : i < n → ¬ isP own id (X.L.getD i Zc) → Z1) (h2 : i = n → Z2) (h3 : i < n → isP own id (X.L.getD i Zc) → Z3) :
  ZI G0 20 126 0 0 (Zdl X own id n i) (rdM 0 0 9 (Zdl X own id n (i + 1)) Zgw (Zdm i) (Zdm i) Z1 Z2 Z3 False) := by
 refine @Eq.mpr _ (let q1 := decide (0 ≤ (↑i : Int) ∧ (↑i : Int) < (↑n : Int));
 let q2 := List.getD X.L (Int.toNat (↑i : Int)) Zc;
 let q3 := X.t;
 let q4 := q3.fund;
 let q5 := q3.index;
 let q6 := q3.cap;
 let q7 := q3.dust;
 let q8 := q3.fee;
 let q9 := q3.delay;
 let q10 := q3.k0;
 let q11 := q3.k1;
 let q12 := [X.a0, X.a1];
 let q13 := [X.i0, X.i1];
 let q14 := decide (n = n);
 let q15 := Z5 X.L;
 let q16 := Z0 (decide (wrap i64 ((↑i : Int) + 1) = (↑(i + 1) : Int))) (Z0 (decide (own = own)) (Z0 (decide (id = id)) (q4 = q4 ∧ Z0 (decide (q5 = q5)) (Z0 (decide (q6 = q6)) (Z0 (decide (q7 = q7)) (Z0 (decide (q8 = q8)) (Z0 (decide (q9 = q9)) (q10 = q10 ∧ q11 = q11 ∧ Z0 (decide (X.side = X.side)) (Z0 (decide (X.res = X.res)) (q12 = q12 ∧ q13 = q13 ∧ Z0 q14 (q15 = q15 ∧ Z0 q14 Z1 False) False) False) False) False) False) False) False) False) False) False) False;
 Z0 (decide ((↑i : Int) < (↑n : Int))) (Z0 q1 (Z0 (q2.own == own) (Z0 q1 (Z0 (q2.id == id) (Z0 (decide ((↑i : Int) = (↑i : Int))) Z3 False) q16) False) q16) False) Z2) (by kernel_rfl) ?_
 conv => zeta
 try simp only [Zi]
 try simp only [Zj]
 try simp only [Zk]
 try simp only [Zl]
 try simp only [Zm]
 try simp only [Zh]
 try simp only [Int.toNat_natCast, Nat.zero_add, true_and, and_true, Nat.le_refl]
 refine ⟨fun hc => ?_, fun hc => h2 (by omega)⟩
 have hlt : i < n := by omega
 have hwr : i64.wrap ((i : Int) + 1) = ((i + 1 : Nat) : Int) := by rw [w64 (by omega)]; omega
 refine ⟨by omega, fun ho => ⟨by omega, fun hd => ?_, fun hd => ?_⟩, fun ho => ?_⟩
 ·exact h3 hlt ⟨by simpa using ho, by simpa using hd⟩
 ·exact ⟨hwr, h1 hlt fun h => by rw [h.2] at hd; simp at hd⟩
 ·exact ⟨hwr, h1 hlt fun h => by rw [h.1] at ho; simp at ho⟩
noncomputable def Zed (X : Za) (own : Bool) (id : Int) (n : Nat) (C : Prop) : Zg := G0.withL 126 0 (goM 0 (Zdl X own id n 0) C (Yv 0 n 9 (fun i => ¬ isP own id (X.L.getD i Zc) ∧ i < n) (fun i => i = n) (fun i => i < n ∧ isP own id (X.L.getD i Zc)) (fun _ => False) (fun _ => Zgw) (fun i => Zdm i) (fun i => Zdm i)))
theorem Zbr (X : Za) (own : Bool) (id : Int) (n : Nat) : (Zed X own id n (n < 1000 ∧ X.L.length = n)).Ok :=
 Zg.withGoM (N := 20) (S := fun i => Zdl X own id n i) Zw (by kernel_rfl) fun hC => ⟨rfl, fun i hi _ => Zgx X own id n i _ _ _ hC.1 hC.2 hi (fun h h' => ⟨⟨h', h⟩, h⟩) (fun h => h) (fun h h' => ⟨h, h'⟩)⟩
theorem Zgy (X : Za) (own : Bool) (id : Int) (n : Nat) (r : Int) (C : Prop) (hC : C) (hL : X.L.length = n) (hr : r = fiV own id X.L) :
  evF (Zed X own id n C) 20 126 [.agg (X.c (.vrows 70 n (Z5 X.L) n)), .bool own, .int .i64 id] ⟨0, []⟩ (Yp (fun v => v = .int .i64 r)) := by
 refine @Eq.mpr _ (let q1 := X.t;
 let q2 := q1.fund;
 let q3 := q1.index;
 let q4 := q1.cap;
 let q5 := q1.dust;
 let q6 := q1.fee;
 let q7 := q1.delay;
 let q8 := q1.k0;
 let q9 := q1.k1;
 let q10 := [X.a0, X.a1];
 let q11 := [X.i0, X.i1];
 let q12 := decide (n = n);
 let q13 := X.L;
 let q14 := Z5 q13;
 Z0 (decide (own = own)) (Z0 (decide (id = id)) (q2 = q2 ∧ Z0 (decide (q3 = q3)) (Z0 (decide (q4 = q4)) (Z0 (decide (q5 = q5)) (Z0 (decide (q6 = q6)) (Z0 (decide (q7 = q7)) (q8 = q8 ∧ q9 = q9 ∧ Z0 (decide (X.side = X.side)) (Z0 (decide (X.res = X.res)) (q10 = q10 ∧ q11 = q11 ∧ Z0 q12 (q14 = q14 ∧ Z0 q12 (C ∧ ∀ (i : Nat), i ≤ n → (∀ (j : Nat), j < i → (fun (i : Nat) => ¬isP own id (List.getD q13 i Zc) ∧ i < n) j) → (i = n → AV.int i64 (-1) = AV.int i64 r) ∧ (i < n ∧ isP own id (List.getD q13 i Zc) → AV.int i64 ↑i = AV.int i64 r) ∧ (False → False)) False) False) False) False) False) False) False) False) False) False) False) (by kernel_rfl) ?_
 conv => zeta
 try simp only [Zi]
 try simp only [Zj]
 try simp only [Zk]
 try simp only [Zl]
 try simp only [Zm]
 try simp only [Zh]
 try simp only [Int.toNat_natCast, Nat.zero_add, true_and, and_true, Nat.le_refl]
 refine ⟨hC, fun i hi hg => ⟨fun he => ?_, fun hx => ?_, fun h => h.elim⟩⟩
 ·rw [hr]
  unfold fiV
  rw [Z2s fun j hj => (hg j (by omega)).1, if_neg (by omega)]
 ·rw [hr]
  unfold fiV
  rw [Z2t (by omega) (fun j hj => (hg j hj).1) hx.2, if_pos (by omega)]
def Zgz : ZU := fun args h K => ZY none h true 20 args fun a => match a with
 | [.agg cs, .bool own, .int .i64 id] => ∃ X, LV cs X ∧ X.L.length < 1000 ∧ K (.int .i64 (fiV own id X.L))
 | _ => False
theorem Zdn (args : List AV) (h : Z9) (K : AV → Prop) (hl : Zgz args h K) : Zo PP 126 args h fun o h' => ∃ v, o = .ret v ∧ h' = h ∧ K v := by
 refine ZH.psumm (d := 20) (Zx _ _ _ _ _ hl fun a ha => ?_)
 split at ha
 ·obtain ⟨X, hX, h1, hK⟩ := ha
  exact ⟨_, (ZH.evV (Zbr X _ _ _) (Zgy X _ _ _ _ _ ⟨h1, rfl⟩ rfl rfl)).conv fun E r hr => hr.head (fun _ hc => Qb hX hc) fun _ hc => hc, fun _ => rfl, hK⟩
 ·exact ha.elim
end Go.Tk
end
section
namespace Go.Tk
open IntKind (i64 u8 u32 u64 wrap)
def Yg : Za := ⟨⟨Zd, 0, 0, 0, 0, 0, Zd, Zd⟩, 0, 0, 0, 0, 0, 0, []⟩
def slH (b n : Nat) : AV := .nslice ⟨b, 0, 70, 0, 0⟩ 70 n n
def U3 (h : Z6) (p : List Z6 × Bool) (x : Z6) : List Z6 × Bool := if h.own = true ∧ x.own = false ∧ p.2 = false then (p.1 ++ [h] ++ [x], true) else (p.1 ++ [x], p.2)
def Z5M (h : Z6) (p : List Z6 × Bool) : List Z6 := if p.2 = true then p.1 else p.1 ++ [h]
theorem Z5N (h : Z6) : ∀ (L O : List Z6), L.foldl (U3 h) (O, true) = (O ++ L, true)
 | [], O => by simp
 | x :: r, O => by
  rw [List.foldl_cons]
  have : U3 h (O, true) x = (O ++ [x], true) := by simp [U3]
  rw [this, Z5N h r]; simp
theorem Z3F (h : Z6) : ∀ (L O : List Z6), Z5M h (L.foldl (U3 h) (O, false)) = O ++ X8 h L
 | [], O => by simp [Z5M, X8]
 | x :: r, O => by
  rw [List.foldl_cons]
  unfold X8
  by_cases hc : h.own = true ∧ x.own = false
  ·rw [if_pos hc]
   have : U3 h (O, false) x = (O ++ [h] ++ [x], true) := by unfold U3; rw [if_pos ⟨hc.1, hc.2, rfl⟩]
   rw [this, Z5N]
   simp [Z5M]
  ·rw [if_neg hc]
   have : U3 h (O, false) x = (O ++ [x], false) := by unfold U3; rw [if_neg (fun q => hc ⟨q.1, q.2.1⟩)]
   rw [this, Z3F h r]; simp
theorem Z4A (h : Z6) : ∀ (L : List Z6) (p : List Z6 × Bool), (L.foldl (U3 h) p).1.length ≤ p.1.length + 2 * L.length
 | [], p => by simp
 | x :: r, p => by
  rw [List.foldl_cons, List.length_cons]
  have := Z4A h r (U3 h p x)
  have h2 : (U3 h p x).1.length ≤ p.1.length + 2 := by unfold U3; split <;> simp
  omega
def plI (own : Bool) : Int := match own with
 | true => 0
 | false => 1
theorem Zi9 (own : Bool) (r : Int) (hr : r = plI own) :
  evF G0 20 84 [.bool own] ⟨0, []⟩ (Yp (fun v => v = .int .i64 r)) := by
 refine @Eq.mpr _ (Z0 own (AV.int i64 0 = AV.int i64 r) (AV.int i64 1 = AV.int i64 r)) (by kernel_rfl) ?_
 subst hr
 cases own <;> exact rfl
def plS : ZU := fun args _ K => match args with
 | [.bool own] => K (.int .i64 (plI own))
 | _ => False
theorem Zfo (args : List AV) (h : Z9) (K : AV → Prop) (hl : plS args h K) : Zo PP 84 args h fun o h' => ∃ v, o = .ret v ∧ h' = h ∧ K v := by
 unfold plS at hl
 split at hl
 ·exact Yf Zw rfl (Zi9 _ _ rfl) (fun u hu => hu ▸ hl)
 ·exact hl.elim
theorem Zia (X : Za) (own : Bool) (r : Int) (hX : YG X) (hr : r = ZN X.side own) :
  evF G0 20 85 [Z9i X, .bool own] ⟨0, []⟩ (Yp (fun v => v = .int .i64 r)) := by
 refine @Eq.mpr _ (Z0 own (AV.int i64 X.side = AV.int i64 r) (AV.int i64 (wrap i64 (1 - X.side)) = AV.int i64 r)) (by kernel_rfl) ?_
 subst hr
 obtain ⟨s1, s2⟩ := hX
 rw [w64 (by omega)]
 cases own <;> exact rfl
def sdS : ZU := fun args h K => ZY none h true 20 args fun a => match a with
 | [.agg cs, .bool own] => ∃ X, LV cs X ∧ YG X ∧ K (.int .i64 (ZN X.side own))
 | _ => False
theorem Z7a (args : List AV) (h : Z9) (K : AV → Prop) (hl : sdS args h K) : Zo PP 85 args h fun o h' => ∃ v, o = .ret v ∧ h' = h ∧ K v := by
 refine ZH.psumm (d := 20) (Zx _ _ _ _ _ hl fun a ha => ?_)
 split at ha
 ·obtain ⟨X, hX, hs, hK⟩ := ha
  exact ⟨_, (ZH.evV Zw (Zia X _ _ hs rfl)).conv fun E r hr => hr.head (fun _ hc => Qb hX hc) fun _ hc => hc, fun _ => rfl, hK⟩
 ·exact ha.elim
theorem ZgA (h : Z6) (z : Int) (b : Bool) (hz : z = 0) (hb : b = Yj h) :
  evF G0 20 83 [.agg [.int .i64 z, .int .i64 h.id, .int .i64 h.amount, .arr .u8 32 h.hash, .int .i64 h.expiry]] ⟨0, []⟩ (Yp (fun v => v = .bool b)) := by
 refine @Eq.mpr _ (let q1 := h.amount;
 let q2 := AV.bool false = AV.bool b;
 let q3 := Z0 (decide (h.id ≥ 0)) (Z0 (decide (h.id ≤ 2147483647)) (Z0 (decide (q1 > 0)) (Z0 (decide (q1 ≥ 0)) (Z0 (decide (q1 ≤ 1125899906842624)) (Z0 (decide (h.expiry ≥ 1)) (AV.bool (decide (h.expiry ≤ 2147483647)) = AV.bool b) q2) q2) q2) q2) q2) q2;
 Z0 (z == 0) q3 (Z0 (z == 1) q3 q2)) (by kernel_rfl) ?_
 conv => zeta
 subst hz hb
 unfold Yj
 simp only [Va]
 congr 1
 by_cases h1 : 0 ≤ h.id <;> by_cases h2 : h.id ≤ 2147483647 <;> by_cases h3 : 1 ≤ h.amount <;> by_cases h4 : h.amount ≤ 1125899906842624 <;> by_cases h5 : 1 ≤ h.expiry <;> by_cases h6 : h.expiry ≤ 2147483647 <;> simp [h1, h2, h3, h4, h5, h6] <;> omega
def Zfp : ZU := fun args _ K => match args with
 | [.agg [.int .i64 z, .int .i64 id, .int .i64 am, .arr .u8 32 ha, .int .i64 ex]] => Zt (z = 0) (K (.bool (Yj ⟨false, id, am, ha, ex, 0, 0, []⟩)))
 | _ => False
theorem Zdo (args : List AV) (h : Z9) (K : AV → Prop) (hl : Zfp args h K) : Zo PP 83 args h fun o h' => ∃ v, o = .ret v ∧ h' = h ∧ K v := by
 unfold Zfp at hl
 split at hl
 ·obtain ⟨h1, hK⟩ := Ze hl
  exact Yf Zw rfl (ZgA ⟨false, _, _, _, _, 0, 0, []⟩ _ _ h1 rfl) (fun u hu => hu ▸ hK)
 ·exact hl.elim
noncomputable def Zfq : Zg := ((((G0.withP 82 Zgv).withP 81 Zbp).withP 84 plS).withP 85 sdS).withP 83 Zfp
theorem Z88 : Zfq.Ok := Zg.withP_ok (Zg.withP_ok (Zg.withP_ok (Zg.withP_ok (Zg.withP_ok Zw Zdk) Z5L) Zfo) Z7a) Zdo
def Z0O (X : Za) (h : Z6) (own : Bool) (n i : Nat) (d : Bool) (O : List Z6) : St := ⟨111, [(20, .int .i64 i), (6, pt 1), (1, .bool own), (19, .bool d), (18, slH 4 O.length), (14, pt 3), (12, pt 2)], ⟨5, [(0, .rows 70 n (Z5 X.L)), (1, .flat (X.c (slH 0 n))), (2, .flat (Yg.c .nilslice)), (3, .flat h.c), (4, .rows 70 O.length (Z5 O))]⟩, []⟩
theorem ZgB (X : Za) (h : Z6) (own : Bool) (n i : Nat) (x : Z6) (d d1 : Bool) (O O1 : List Z6) (Z1 Z2 : Prop) (hn : n < 1000) (hL : X.L.length = n) (hi : i ≤ n) (hx : i < n → X.L.getD i Zc = x) (hO : O.length < 5000) (ho : h.own = own) (h1 : i < n → (O1, d1) = U3 h (O, d) x) (hZ1 : i < n → Z1) (hZ2 : i = n → Z2) :
  ZI Zfq 20 32 0 1 (Z0O X h own n i d O) (rdM 1 0 9 (Z0O X h own n (i + 1) d1 O1) (Z0O X h own n i d O) (Z0O X h own n i d O) (Z0O X h own n i d O) Z1 Z2 False False) := by
 refine @Eq.mpr _ (let q1 := decide (0 ≤ (↑i : Int) ∧ (↑i : Int) < (↑n : Int));
 let q2 := 0 + Int.toNat (↑i : Int);
 let q3 := List.getD X.L q2 Zc;
 let q4 := q3.own;
 let q5 := List.length O;
 let q6 := decide (q5 = q5);
 let q7 := q5 + 1;
 let q8 := decide (q7 * 112 ≤ 140737488355328);
 let q9 := q7 + 1;
 let q10 := decide (wrap i64 ((↑i : Int) + 1) = (↑(i + 1) : Int));
 let q11 := decide (own = own);
 let q12 := List.length O1;
 let q13 := decide (q9 = q12);
 let q14 := decide (n = n);
 let q15 := [(1, 1)];
 let q16 := (2, 2) :: (3, 3) :: (4, 8) :: q15;
 let q17 := Z5 X.L;
 let q18 := X.t;
 let q19 := q18.fund;
 let q20 := q19 = q19;
 let q21 := q18.index;
 let q22 := decide (q21 = q21);
 let q23 := q18.cap;
 let q24 := decide (q23 = q23);
 let q25 := q18.dust;
 let q26 := decide (q25 = q25);
 let q27 := q18.fee;
 let q28 := decide (q27 = q27);
 let q29 := q18.delay;
 let q30 := decide (q29 = q29);
 let q31 := q18.k0;
 let q32 := q31 = q31;
 let q33 := q18.k1;
 let q34 := q33 = q33;
 let q35 := decide (X.side = X.side);
 let q36 := decide (X.res = X.res);
 let q37 := [X.a0, X.a1];
 let q38 := q37 = q37;
 let q39 := [X.i0, X.i1];
 let q40 := q39 = q39;
 let q41 := decide (n ≤ n);
 let q42 := Yg.t;
 let q43 := q42.fund;
 let q44 := q43 = q43;
 let q45 := q42.k0;
 let q46 := q45 = q45;
 let q47 := q42.k1;
 let q48 := q47 = q47;
 let q49 := [Yg.a0, Yg.a1];
 let q50 := q49 = q49;
 let q51 := [Yg.i0, Yg.i1];
 let q52 := q51 = q51;
 let q53 := h.own;
 let q54 := decide (q53 = q53);
 let q55 := h.id;
 let q56 := decide (q55 = q55);
 let q57 := h.amount;
 let q58 := decide (q57 = q57);
 let q59 := h.hash;
 let q60 := q59 = q59;
 let q61 := h.expiry;
 let q62 := decide (q61 = q61);
 let q63 := h.stage;
 let q64 := decide (q63 = q63);
 let q65 := h.fin;
 let q66 := decide (q65 = q65);
 let q67 := h.secret;
 let q68 := q67 = q67;
 let q69 := Z5 O;
 let q70 := YD [AV.bool q4, AV.int i64 q3.id, AV.int i64 q3.amount, AV.arr u8 32 q3.hash, AV.int i64 q3.expiry, AV.int i64 q3.stage, AV.int i64 q3.fin, AV.arr u8 32 q3.secret] 0 70;
 let q71 := decide (q7 = q12);
 let q72 := (2, 2) :: (3, 3) :: (4, 6) :: q15;
 let q73 := Z0 q6 (Z0 q8 (Z0 q10 (Z0 q11 (Z0 (decide (d = d1)) (Z0 q71 (Z0 (decide (q12 ≤ q7)) (Z0 q14 (Z8 1 q72 n q17 q17 ∧ q20 ∧ Z0 q22 (Z0 q24 (Z0 q26 (Z0 q28 (Z0 q30 (q32 ∧ q34 ∧ Z0 q35 (Z0 q36 (q38 ∧ q40 ∧ Z0 q14 (Z0 q41 (q44 ∧ q46 ∧ q48 ∧ q50 ∧ q52 ∧ Z0 q54 (Z0 q56 (Z0 q58 (q60 ∧ Z0 q62 (Z0 q64 (Z0 q66 (q68 ∧ Z0 q71 (Z8 1 q72 q12 (Z5 O1) (ZV q5 q69 q70) ∧ Z1) False) False) False) False) False) False) False) False) False) False) False) False) False) False) False) False) False) False) False) False) False) False) False) False;
 let q74 := (2, 2) :: (3, 3) :: (4, 4) :: q15;
 Z0 (decide ((↑i : Int) < (↑n : Int)))
 (Z0 own
 (Z0 q1
 (Z0 (decide (q2 < n))
 (Z0 (!q4)
 (Z0 (!d) (Z0 q6 (Z0 q8 (Z0 q1 (Z0 (decide (q2 < n)) (Z0 (decide (q7 = q7)) (Z0 (decide (q9 * 112 ≤ 140737488355328)) (Z0 q10 (Z0 q11 (Z0 (decide (true = d1)) (Z0 q13 (Z0 (decide (q12 ≤ q9)) (Z0 q14 (Z8 1 q16 n q17 q17 ∧ q20 ∧ Z0 q22 (Z0 q24 (Z0 q26 (Z0 q28 (Z0 q30 (q32 ∧ q34 ∧ Z0 q35 (Z0 q36 (q38 ∧ q40 ∧ Z0 q14 (Z0 q41 (q44 ∧ q46 ∧ q48 ∧ q50 ∧ q52 ∧ Z0 q54 (Z0 q56 (Z0 q58 (q60 ∧ Z0 q62 (Z0 q64 (Z0 q66 (q68 ∧ Z0 q13 (Z8 1 q16 q12 (Z5 O1) (ZV q7 (ZV q5 q69 (YD [AV.bool q53, AV.int i64 q55, AV.int i64 q57, AV.arr u8 32 q59, AV.int i64 q61, AV.int i64 q63, AV.int i64 q65, AV.arr u8 32 q67] 0 70)) q70) ∧ Z1) False) False) False) False) False) False) False) False) False) False) False) False) False) False) False) False) False) False) False) False) False) False) False) False) False) False) False) False) (Z0 q1 (Z0 (decide (q2 < n)) q73 False) False))
 (Z0 q1 (Z0 (decide (q2 < n)) q73 False) False))
 False)
 False)
 (Z0 q1 (Z0 (decide (q2 < n)) q73 False) False))
 (Z0 (decide ((↑i : Int) = (↑i : Int))) (Z0 q11 (Z0 (decide (d = d)) (Z0 q6 (Z0 (decide (q5 ≤ q5)) (Z0 q14 (Z8 1 q74 n q17 q17 ∧ q20 ∧ Z0 q22 (Z0 q24 (Z0 q26 (Z0 q28 (Z0 q30 (q32 ∧ q34 ∧ Z0 q35 (Z0 q36 (q38 ∧ q40 ∧ Z0 q14 (Z0 q41 (q44 ∧ q46 ∧ q48 ∧ q50 ∧ q52 ∧ Z0 q54 (Z0 q56 (Z0 q58 (q60 ∧ Z0 q62 (Z0 q64 (Z0 q66 (q68 ∧ Z0 q6 (Z8 1 q74 q5 q69 q69 ∧ Z2) False) False) False) False) False) False) False) False) False) False) False) False) False) False) False) False) False) False) False) False) False) False)) (by kernel_rfl) ?_
 conv => zeta
 try simp only [Zi]
 try simp only [Zj]
 try simp only [Zk]
 try simp only [Zl]
 try simp only [Zm]
 try simp only [Zh]
 try simp only [Int.toNat_natCast, Nat.zero_add, true_and, and_true, Nat.le_refl]
 refine ⟨fun hc => ?_, fun hc => ?_⟩
 ·have hlt : i < n := by omega
  rw [hx hlt]
  have h1 := h1 hlt
  have hwr : i64.wrap ((i : Int) + 1) = ((i + 1 : Nat) : Int) := by rw [w64 (by omega)]; omega
  rw [hwr]
  have hR : ∀ τ k (Q : List Z6), Z8 1 τ k (Z5 Q) (Z5 Q) := fun τ k Q => Zn fun _ _ => rfl
  have hC : ∀ τ (Q : List Z6) (y : Z6), Z8 1 τ (Q ++ [y]).length (Z5 (Q ++ [y])) (ZV Q.length (Z5 Q) (YD y.c 0 70)) := fun τ Q y => Zn fun j hj => Ym rfl (fun _ _ => rfl) (by simpa using hj)
  have hD : ∀ τ (Q : List Z6) (y z : Z6), Z8 1 τ (Q ++ [y] ++ [z]).length (Z5 (Q ++ [y] ++ [z])) (ZV (Q.length + 1) (ZV Q.length (Z5 Q) (YD y.c 0 70)) (YD z.c 0 70)) := fun τ Q y z => Zn fun j hj => Ym (O := Q ++ [y]) (by simp) (fun k hk => Ym rfl (fun _ _ => rfl) hk) (by simpa using hj)
  have no : ¬ (h.own = true ∧ x.own = false ∧ d = false) → O1 = O ++ [x] ∧ d1 = d := fun q => by
   unfold U3 at h1
   rw [if_neg q] at h1
   simp only [Prod.mk.injEq] at h1; exact h1
  refine ⟨fun ho1 => ⟨by omega, hlt, fun hx1 => ⟨fun hd => ?_, fun hd => ?_⟩, fun hx1 => ?_⟩, fun ho1 => ?_⟩
  ·have e : h.own = true ∧ x.own = false ∧ d = false := ⟨by rw [ho, ho1], by simpa using hx1, by simpa using hd⟩
   unfold U3 at h1
   rw [if_pos e] at h1
   simp only [Prod.mk.injEq] at h1
   obtain ⟨e1, e2⟩ := h1
   subst e1 e2
   repeat' apply And.intro
   all_goals first | omega | rfl | exact hZ1 hlt | exact hD _ _ _ _ | exact hR _ _ _ | (simp; done)
  ·obtain ⟨e1, e2⟩ := no (fun q => by rw [q.2.2] at hd; cases hd)
   subst e1 e2
   repeat' apply And.intro
   all_goals first | omega | rfl | exact hZ1 hlt | exact hC _ _ _ | exact hR _ _ _ | (simp; done)
  ·obtain ⟨e1, e2⟩ := no (fun q => by rw [q.2.1] at hx1; cases hx1)
   subst e1 e2
   repeat' apply And.intro
   all_goals first | omega | rfl | exact hZ1 hlt | exact hC _ _ _ | exact hR _ _ _ | (simp; done)
  ·obtain ⟨e1, e2⟩ := no (fun q => by rw [ho, ho1] at q; cases q.1)
   subst e1 e2
   repeat' apply And.intro
   all_goals first | omega | rfl | exact hZ1 hlt | exact hC _ _ _ | exact hR _ _ _ | (simp; done)
 ·repeat' apply And.intro
  all_goals first | omega | rfl | exact hZ2 (by omega) | exact Zn fun _ _ => rfl
def QH (X : Za) (h : Z6) (i : Nat) : List Z6 × Bool := (X.L.take i).foldl (U3 h) ([], false)
noncomputable def Z89 (X : Za) (h : Z6) (own : Bool) (n : Nat) (C : Prop) (E : Nat → St) : Zg := Zfq.withL 32 0 (goM 1 (Z0O X h own n 0 false []) C (Yv 0 n 9 (fun i => i < n) (fun i => i = n) (fun _ => False) (fun _ => False) E E E))
theorem Zbs (X : Za) (h : Z6) (own : Bool) (n : Nat) : (Z89 X h own n (n < 1000 ∧ X.L.length = n ∧ h.own = own) (fun i => Z0O X h own n i (QH X h i).2 (QH X h i).1)).Ok := by
 refine Zg.withGoM (N := 20) (S := fun i => Z0O X h own n i (QH X h i).2 (QH X h i).1) Z88 (by kernel_rfl) fun hC => ⟨rfl, fun i hi _ => ?_⟩
 obtain ⟨h1, h2, h3⟩ := hC
 have hl := Z4A h (X.L.take i) ([], false)
 have l0 : (X.L.take i).length ≤ i := by rw [List.length_take]; omega
 have l1 : (QH X h i).1.length ≤ 2 * i := by unfold QH; simp only [List.length_nil] at hl; omega
 refine ZgB X h own n i (X.L.getD i Zc) _ _ _ _ _ _ h1 h2 hi (fun _ => rfl) (by omega) h3 (fun q => ?_) (fun q => ⟨q, q⟩) (fun q => q)
 show QH X h (i + 1) = _
 unfold QH
 rw [Uq (U3 h) Zc (by omega)]
theorem Z5O (X : Za) (own : Bool) (id am ex : Int) (hash : List Int) : Yj ⟨false, id, am, hash, ex, 0, 0, []⟩ = Yj (YV X own id am hash ex) := rfl
theorem Zee (X : Za) (own : Bool) : [X.i0, X.i1].getD (plI own).toNat 0 = X.nx own := by cases own <;> rfl
theorem Zbt (own : Bool) : 0 ≤ plI own ∧ plI own < 2 := by cases own <;> exact ⟨by decide, by decide⟩
theorem ZgC (X : Za) (own : Bool) (n : Nat) (id am ex e : Int) (hash : List Int) (C : Prop) (hL : X.L.length = n) (hI : X.Inv Zq) (he : e = Xi X own id am hash ex) (hne : e ≠ 0) :
  evF (Z89 X Zc own n C fun i => Z0O X Zc own n i false []) 20 32 [.agg (X.c (slH 0 n)), .bool own, .int .i64 id, .int .i64 am, .agg [.arr .u8 32 hash], .int .i64 ex] ⟨1, [(0, .rows 70 n (Z5 X.L))]⟩ (YQ 1 (.ret (.tuple [.agg (X.c (slH 0 n)), .int .i64 e])) 1 [(0, .rows 70 n (Z5 X.L))]) := by
 refine @Eq.mpr _ (let q1 := X.t;
 let q2 := q1.fund;
 let q3 := q2 = q2;
 let q4 := q1.index;
 let q5 := decide (q4 = q4);
 let q6 := q1.cap;
 let q7 := decide (q6 = q6);
 let q8 := q1.dust;
 let q9 := decide (q8 = q8);
 let q10 := q1.fee;
 let q11 := decide (q10 = q10);
 let q12 := q1.delay;
 let q13 := decide (q12 = q12);
 let q14 := q1.k0;
 let q15 := q14 = q14;
 let q16 := q1.k1;
 let q17 := q16 = q16;
 let q18 := X.side;
 let q19 := decide (q18 = q18);
 let q20 := X.res;
 let q21 := decide (q20 = q20);
 let q22 := [X.a0, X.a1];
 let q23 := q22 = q22;
 let q24 := [X.i0, X.i1];
 let q25 := q24 = q24;
 let q26 := decide (n = n);
 let q27 := decide (n ≤ n);
 let q28 := Z5 X.L;
 let q29 := Z0 q26 (Z8 1 [] n q28 q28 ∧ True) False;
 let q30 := 0 + Int.toNat (plI own);
 let q31 := decide (0 + n ≤ n);
 let q32 := Yg.t;
 let q33 := [(0 : Int), 0];
 Z0 (!Yj (Z6.mk false id am hash ex 0 0 [])) (q3 ∧ Z0 q5 (Z0 q7 (Z0 q9 (Z0 q11 (Z0 q13 (q15 ∧ q17 ∧ Z0 q19 (Z0 q21 (q23 ∧ q25 ∧ Z0 q26 (Z0 q27 (Z0 (decide (2 = e)) q29 False) False) False) False) False) False) False) False) False) False)
 (Z0 (decide (0 ≤ plI own ∧ plI own < 2))
 (Z0 (decide (q30 < 2))
 (Z0 (id != List.getD q24 q30 0) (q3 ∧ Z0 q5 (Z0 q7 (Z0 q9 (Z0 q11 (Z0 q13 (q15 ∧ q17 ∧ Z0 q19 (Z0 q21 (q23 ∧ q25 ∧ Z0 q26 (Z0 q27 (Z0 (decide (200 = e)) q29 False) False) False) False) False) False) False) False) False) False)
 (Z0 q31
 ((∀ (i : Nat), i < n → true = true) ∧
 ∃ (X : Za),
 let q67 := [AV.arr u8 32 q2, AV.int i64 q4, AV.int i64 q6, AV.int i64 q8, AV.int i64 q10, AV.int i64 q12, AV.arr u8 32 q14, AV.arr u8 32 q16, AV.int i64 q18, AV.int i64 q20, AV.arr i64 2 q22, AV.arr i64 2 q24, AV.vrows 70 n (ZT 0 q28) n];
 let q68 := X.side;
 let q69 := ZN q68 own;
 let q70 := q69 = 0 ∨ q69 = 1;
 LV q67 X ∧
 (0 ≤ q68 ∧ q68 ≤ 1) ∧
 Z0 q31
 ((∀ (i : Nat), i < n → true = true) ∧
 ∃ (X : Za),
 LV q67 X ∧
 Za.Inv Zq X ∧
 q70 ∧
 Z0 (decide ((↑(List.length (ZO X.side q69 X.L)) : Int) ≥ 8)) (q3 ∧ Z0 q5 (Z0 q7 (Z0 q9 (Z0 q11 (Z0 q13 (q15 ∧ q17 ∧ Z0 q19 (Z0 q21 (q23 ∧ q25 ∧ Z0 q26 (Z0 q27 (Z0 (decide (201 = e)) q29 False) False) False) False) False) False) False) False) False) False)
 (Z0 q31 ((∀ (i : Nat), i < n → true = true) ∧ ∃ (X : Za), LV q67 X ∧ Za.Inv Zq X ∧ q70 ∧ Z0 (decide (Ya X q69 < am)) (q3 ∧ Z0 q5 (Z0 q7 (Z0 q9 (Z0 q11 (Z0 q13 (q15 ∧ q17 ∧ Z0 q19 (Z0 q21 (q23 ∧ q25 ∧ Z0 q26 (Z0 q27 (Z0 (decide (202 = e)) q29 False) False) False) False) False) False) False) False) False) False) (Z0 (decide (own = own)) (Z0 q26 (Z8 1 [(2, 3), (3, 4), (1, 1)] n q28 q28 ∧ q3 ∧ Z0 q5 (Z0 q7 (Z0 q9 (Z0 q11 (Z0 q13 (q15 ∧ q17 ∧ Z0 q19 (Z0 q21 (q23 ∧ q25 ∧ Z0 q26 (Z0 q27 (Zd = q32.fund ∧ Zd = q32.k0 ∧ Zd = q32.k1 ∧ q33 = [Yg.a0, Yg.a1] ∧ q33 = [Yg.i0, Yg.i1] ∧ Z0 (decide (own = Zc.own)) (Z0 (decide (id = Zc.id)) (Z0 (decide (am = Zc.amount)) (hash = Zc.hash ∧ Z0 (decide (ex = Zc.expiry)) False False) False) False) False) False) False) False) False) False) False) False) False) False) False) False)) False))
 False)
 False))
 False)
 False)) (by kernel_rfl) ?_
 conv => zeta
 try simp only [Zi]
 try simp only [Zj]
 try simp only [Zk]
 try simp only [Zl]
 try simp only [Zm]
 try simp only [Zh]
 try simp only [Int.toNat_natCast, Nat.zero_add, true_and, and_true, Nat.le_refl]
 have hs := hI.side
 have hs01 : 0 ≤ X.side ∧ X.side ≤ 1 := by omega
 have hR : Z8 1 [] n (Z5 X.L) (Z5 X.L) := Zn fun _ _ => rfl
 rw [Z5O X own id am ex hash, Zee]
 subst hL
 unfold Xi at he
 refine ⟨fun k => ⟨?_, hR⟩, fun k1 => ⟨Zbt own, by have := Zbt own; omega, fun k => ⟨?_, hR⟩, fun k2 => ⟨fun _ _ => trivial, X, .a rfl, hs01, fun _ _ => trivial, X, .a rfl, hI, Z3z hs own, fun k => ⟨?_, hR⟩, fun k3 => ⟨fun _ _ => trivial, X, .a rfl, hI, Z3z hs own, fun k => ⟨?_, hR⟩, fun k4 => ?_⟩⟩⟩⟩
 ·rw [he, if_pos (by simpa using k)]
 ·rw [he, if_neg (by simpa using k1), if_pos (by simpa using k)]
 ·rw [he, if_neg (by simpa using k1), if_neg (by simpa using k2), if_pos (by omega)]
 ·rw [he, if_neg (by simpa using k1), if_neg (by simpa using k2), if_neg (by omega), if_pos k]
 ·exact absurd (by rw [he, if_neg (by simpa using k1), if_neg (by simpa using k2), if_neg (by omega), if_neg k4]) hne
theorem Zdp {X : Za} (own : Bool) (h : (0 ≤ X.i0 ∧ X.i0 ≤ 2147483648) ∧ 0 ≤ X.i1 ∧ X.i1 ≤ 2147483648) : [X.i0, X.i1].set (plI own).toNat (i64.wrap (X.nx own + 1)) = [(Xm X own 1).i0, (Xm X own 1).i1] := by
 cases own
 ·show [X.i0, i64.wrap (X.i1 + 1)] = [X.i0, X.i1 + 1]
  rw [w64 (by omega)]
 ·show [i64.wrap (X.i0 + 1), X.i1] = [X.i0 + 1, X.i1]
  rw [w64 (by omega)]
theorem Zbu (X : Za) (own : Bool) (d : Int) : (Xm X own d).t = X.t ∧ (Xm X own d).side = X.side ∧ (Xm X own d).res = X.res ∧ (Xm X own d).a0 = X.a0 ∧ (Xm X own d).a1 = X.a1 := by cases own <;> exact ⟨rfl, rfl, rfl, rfl, rfl⟩
theorem ZgD (X X' : Za) (h : Z6) (own : Bool) (n l : Nat) (id am ex : Int) (hash : List Int) (C : Prop) (DF : Nat → Bool) (OF : Nat → List Z6) (hC : C) (hL : X.L.length = n) (hI : X.Inv Zq) (he : Xi X own id am hash ex = 0) (hh : h = YV X own id am hash ex) (hX' : X' = { Xm X own 1 with L := Z5M h (OF n, DF n) }) (hl : l = X'.L.length) (hb : (OF n).length < 1000) :
  evF (Z89 X h own n C fun i => Z0O X h own n i (DF i) (OF i)) 20 32 [.agg (X.c (slH 0 n)), .bool own, .int .i64 id, .int .i64 am, .agg [.arr .u8 32 hash], .int .i64 ex] ⟨1, [(0, .rows 70 n (Z5 X.L))]⟩ (YQ 1 (.ret (.tuple [.agg (X'.c (slH 1 l)), .int .i64 0])) 2 [(0, .rows 70 n (Z5 X.L)), (1, .rows 70 l (Z5 X'.L))]) := by
 refine @Eq.mpr _ (let q1 := decide (0 ≤ plI own ∧ plI own < 2);
 let q2 := 0 + Int.toNat (plI own);
 let q3 := [X.i0, X.i1];
 let q4 := List.getD q3 q2 0;
 let q5 := decide (0 + n ≤ n);
 let q6 := X.t;
 let q7 := q6.fund;
 let q8 := q6.index;
 let q9 := q6.cap;
 let q10 := q6.dust;
 let q11 := q6.fee;
 let q12 := q6.delay;
 let q13 := q6.k0;
 let q14 := q6.k1;
 let q15 := X.side;
 let q16 := X.res;
 let q17 := [X.a0, X.a1];
 let q18 := Z5 X.L;
 let q19 := decide (n = n);
 let q20 := Yg.t;
 let q21 := [(0 : Int), 0];
 let q22 := decide (q2 < 2);
 let q23 := decide (i64 = i64 ∧ q2 < 2 ∧ q2 < 2);
 let q24 := X'.t;
 let q25 := q7 = q24.fund;
 let q26 := decide (q8 = q24.index);
 let q27 := decide (q9 = q24.cap);
 let q28 := decide (q10 = q24.dust);
 let q29 := decide (q11 = q24.fee);
 let q30 := decide (q12 = q24.delay);
 let q31 := q13 = q24.k0;
 let q32 := q14 = q24.k1;
 let q33 := decide (q15 = X'.side);
 let q34 := decide (q16 = X'.res);
 let q35 := q17 = [X'.a0, X'.a1];
 let q36 := List.set q3 q2 (wrap i64 (q4 + 1)) = [X'.i0, X'.i1];
 let q37 := [(1, 6)];
 let q38 := Z5 X'.L;
 let q39 := [(1, 4)];
 Z0 (!Yj (Z6.mk false id am hash ex 0 0 [])) False
 (Z0 q1
 (Z0 (decide (q2 < 2))
 (Z0 (id != q4) False
 (Z0 q5
 ((∀ (i : Nat), i < n → true = true) ∧
 ∃ (X_1 : Za),
 let q79 := [AV.arr u8 32 q7, AV.int i64 q8, AV.int i64 q9, AV.int i64 q10, AV.int i64 q11, AV.int i64 q12, AV.arr u8 32 q13, AV.arr u8 32 q14, AV.int i64 q15, AV.int i64 q16, AV.arr i64 2 q17, AV.arr i64 2 q3, AV.vrows 70 n (ZT 0 q18) n];
 let q80 := X_1.side;
 let q81 := ZN q80 own;
 let q82 := q81 = 0 ∨ q81 = 1;
 LV q79 X_1 ∧
 (0 ≤ q80 ∧ q80 ≤ 1) ∧
 Z0 q5
 ((∀ (i : Nat), i < n → true = true) ∧
 ∃ (X_2 : Za),
 LV q79 X_2 ∧
 Za.Inv Zq X_2 ∧
 q82 ∧
 Z0 (decide ((↑(List.length (ZO X_2.side q81 X_2.L)) : Int) ≥ 8)) False
 (Z0 q5
 ((∀ (i : Nat), i < n → true = true) ∧
 ∃ (X_3 : Za),
 LV q79 X_3 ∧
 Za.Inv Zq X_3 ∧
 q82 ∧
 Z0 (decide (Ya X_3 q81 < am)) False
 (Z0 (decide (own = own))
 (Z0 q19
 (Z8 1 [(2, 3), (3, 4), (1, 1)] n q18 q18 ∧
 q7 = q7 ∧
 Z0 (decide (q8 = q8))
 (Z0 (decide (q9 = q9))
 (Z0 (decide (q10 = q10))
 (Z0 (decide (q11 = q11))
 (Z0 (decide (q12 = q12))
 (q13 = q13 ∧
 q14 = q14 ∧
 Z0 (decide (q15 = q15))
 (Z0 (decide (q16 = q16))
 (q17 = q17 ∧
 q3 = q3 ∧
 Z0 q19
 (Z0 (decide (n ≤ n))
 (Zd = q20.fund ∧
 Zd = q20.k0 ∧
 Zd = q20.k1 ∧
 q21 = [Yg.a0, Yg.a1] ∧
 q21 = [Yg.i0, Yg.i1] ∧
 Z0 (decide (own = h.own))
 (Z0 (decide (id = h.id))
 (Z0 (decide (am = h.amount))
 (hash = h.hash ∧
 Z0 (decide (ex = h.expiry))
 (Z0 (decide (1 = h.stage))
 (Z0 (decide (0 = h.fin))
 (Zd = h.secret ∧
 C ∧
 ∀ (i : Nat),
 let q87 := List.length (OF i);
 let q88 := q87 + 1;
 let q89 := decide (q88 = l);
 let q90 := decide (q87 = l);
 i ≤ n →
 (∀ (j : Nat), j < i → (fun (i : Nat) => i < n) j) →
 (i = n →
 Z0 (!DF i) (Z0 (decide (q87 = q87)) (Z0 (decide (q88 * 112 ≤ 140737488355328)) (Z0 q1 (Z0 q22 (Z0 q1 (Z0 q23 (q25 ∧ Z0 q26 (Z0 q27 (Z0 q28 (Z0 q29 (Z0 q30 (q31 ∧ q32 ∧ Z0 q33 (Z0 q34 (q35 ∧ q36 ∧ Z0 q89 (Z0 (decide (l ≤ q88)) (Z0 q19 (Z8 1 q37 n q18 q18 ∧ Z0 q89 (Z8 1 q37 l q38 (ZV q87 (Z5 (OF i)) (YD [AV.bool h.own, AV.int i64 h.id, AV.int i64 h.amount, AV.arr u8 32 h.hash, AV.int i64 h.expiry, AV.int i64 h.stage, AV.int i64 h.fin, AV.arr u8 32 h.secret] 0 70)) ∧ True) False) False) False) False) False) False) False) False) False) False) False) False) False) False) False) False) False)
 (Z0 q1 (Z0 q22 (Z0 q1 (Z0 q23 (q25 ∧ Z0 q26 (Z0 q27 (Z0 q28 (Z0 q29 (Z0 q30 (q31 ∧ q32 ∧ Z0 q33 (Z0 q34 (q35 ∧ q36 ∧ Z0 q90 (Z0 (decide (l ≤ q87)) (Z0 q19 (Z8 1 q39 n q18 q18 ∧ Z0 q90 (Z8 1 q39 l q38 (Z5 (OF i)) ∧ True) False) False) False) False) False) False) False) False) False) False) False) False) False) False) False)) ∧
 (False → False) ∧ (False → False))
 False)
 False)
 False)
 False)
 False)
 False)
 False)
 False)
 False)
 False)
 False)
 False)
 False)
 False)
 False)
 False)
 False))
 False))
 False)
 False))
 False)
 False)) (by kernel_rfl) ?_
 conv => zeta
 try simp only [Zi]
 try simp only [Zj]
 try simp only [Zk]
 try simp only [Zl]
 try simp only [Zm]
 try simp only [Zh]
 try simp only [Int.toNat_natCast, Nat.zero_add, true_and, and_true, Nat.le_refl]
 have hs := hI.side
 have hs01 : 0 ≤ X.side ∧ X.side ≤ 1 := by omega
 have hR : ∀ τ k (Q : List Z6), Z8 1 τ k (Z5 Q) (Z5 Q) := fun τ k Q => Zn fun _ _ => rfl
 have hC2 : ∀ τ (Q : List Z6) (y : Z6), Z8 1 τ (Q ++ [y]).length (Z5 (Q ++ [y])) (ZV Q.length (Z5 Q) (YD y.c 0 70)) := fun τ Q y => Zn fun j hj => Ym rfl (fun _ _ => rfl) (by simpa using hj)
 rw [Z5O X own id am ex hash, Zee, Zdp own ⟨hI.i0, hI.i1⟩]
 obtain ⟨k1, k2, k3, k4⟩ := Z0a he
 have hp := Zbt own
 have hp2 : (plI own).toNat < 2 := by omega
 obtain ⟨c1, c2, c3, c4, c5⟩ := Zbu X own 1
 subst hL
 refine ⟨by simp [k1], hp, hp2, by simp [k2], fun _ _ => trivial, X, .a rfl, hs01, fun _ _ => trivial, X, .a rfl, hI, Z3z hs own, by omega, fun _ _ => trivial, X, .a rfl, hI, Z3z hs own, by omega, hR _ _ _, rfl, rfl, rfl, rfl, rfl, ?_⟩
 have hf : ∀ d : Bool, X'.L = Z5M h (OF X.L.length, DF X.L.length) := fun _ => by rw [hX']
 have e : X'.t = X.t ∧ X'.side = X.side ∧ X'.res = X.res ∧ X'.a0 = X.a0 ∧ X'.a1 = X.a1 ∧ X'.i0 = (Xm X own 1).i0 ∧ X'.i1 = (Xm X own 1).i1 := by rw [hX']; exact ⟨c1, c2, c3, c4, c5, rfl, rfl⟩
 obtain ⟨e1, e2, e3, e4, e5, e6, e7⟩ := e
 rw [e1, e2, e3, e4, e5, e6, e7]
 have hf := hf true
 refine ⟨by rw [hh]; rfl, by rw [hh]; rfl, by rw [hh]; rfl, by rw [hh]; rfl, by rw [hh]; rfl, by rw [hh]; rfl, by rw [hh]; rfl, by rw [hh]; rfl, hC, fun i hi _ => ⟨fun hi => ?_, fun h => h.elim, fun h => h.elim⟩⟩
 subst hi
 refine ⟨fun hd => ?_, fun hd => ?_⟩
 ·have hd : DF X.L.length = false := by simpa using hd
  have hq : X'.L = OF X.L.length ++ [h] := by rw [hf]; unfold Z5M; rw [hd]; rfl
  rw [hq] at hl ⊢
  subst hl
  repeat' apply And.intro
  all_goals first | omega | rfl | exact hR _ _ _ | exact hC2 _ _ _ | (simp; done) | skip
 ·have hd : DF X.L.length = true := by simpa using hd
  have hq : X'.L = OF X.L.length := by rw [hf]; unfold Z5M; rw [hd]; rfl
  rw [hq] at hl ⊢
  subst hl
  repeat' apply And.intro
  all_goals first | omega | rfl | exact hR _ _ _ | (simp; done) | skip
structure LD (cs : List AV) (n : Nat) (f : Nat → List AV) (X : Za) : Prop where
 h1 : cs = X.c (slH 0 n)
 h2 : f = Z5 X.L
 h3 : n = X.L.length
def Zbv (H : List Int → List Int) (c : Bool) : YR := fun args h K => match args with
 | [.agg [_, _, _, _, _, _, _, _, _, _, _, _, .nslice ⟨b, 0, 70, 0, 0⟩ 70 _ _], _, _, _, _, _] => frA [b] h 20 args fun Bs a => match Bs, a with
  | [.rows 70 n f], [.agg cs, .bool own, .int .i64 id, .int .i64 am, .agg [.arr .u8 32 hash], .int .i64 ex] =>
   ∃ X, LD cs n f X ∧ X.Inv H ∧ (match c with
    | true => Xi X own id am hash ex = 0 ∧ K (.ret (.tuple [.agg ((addX X own id am hash ex).c (slH h.next (X.L.length + 1))), .int .i64 0])) ⟨h.next + 1, (b, .rows 70 X.L.length (Z5 X.L)) :: (h.next, .rows 70 (X.L.length + 1) (Z5 (addX X own id am hash ex).L)) :: YP h.bs b⟩
    | false => Xi X own id am hash ex ≠ 0 ∧ K (.ret (.tuple [.agg (X.c (slH b X.L.length)), .int .i64 (Xi X own id am hash ex)])) ⟨h.next, (b, .rows 70 X.L.length (Z5 X.L)) :: YP h.bs b⟩)
  | _, _ => False
 | _ => False
theorem Zbw (c : Bool) (args : List AV) (h : Z9) (K : KO) (hl : Zbv Zq c args h K) : Zo PP 32 args h K := by
 unfold Zbv at hl
 split at hl
 ·refine Spec.fsumm hl fun Bs a hlen hK0 => ?_
  split at hK0
  ·rename_i cs n f own id am hash ex
   obtain ⟨X, ⟨rfl, rfl, rfl⟩, hI, hK⟩ := hK0
   cases c with
   | true =>
    obtain ⟨he, hK1⟩ := hK
    have hq := Z4A (YV X own id am hash ex) X.L ([], false)
    have hlen := hI.len
    have e : addX X own id am hash ex = { Xm X own 1 with L := Z5M (YV X own id am hash ex) ((QH X (YV X own id am hash ex) X.L.length).1, (QH X (YV X own id am hash ex) X.L.length).2) } := by
     have h0 := Z3F (YV X own id am hash ex) X.L []
     unfold addX QH
     rw [if_pos he, List.take_length]
     rw [List.nil_append] at h0
     rw [← h0]
    have hl2 : X.L.length + 1 = (addX X own id am hash ex).L.length := by
     unfold addX
     rw [if_pos he]
     exact (Z2q _ _).symm
    have hv := ZgD X (addX X own id am hash ex) (YV X own id am hash ex) own X.L.length (X.L.length + 1) id am ex hash _ (fun i => (QH X (YV X own id am hash ex) i).2) (fun i => (QH X (YV X own id am hash ex) i).1) (show X.L.length < 1000 ∧ X.L.length = X.L.length ∧ (YV X own id am hash ex).own = own from ⟨hI.am.n, rfl, rfl⟩) rfl hI he rfl e hl2 (by unfold QH; rw [List.take_length]; simp only [List.length_nil] at hq; omega)
    exact ⟨_, _, _, _, _, .evM (Zbs X _ own _) hv, by simp, .ret _ _ rfl, .cons _ _ _ _ _ _ rfl (.rows _ _ _ (fun _ _ => rfl)) (.cons _ _ _ _ _ _ rfl (.rows _ _ _ (fun _ _ => rfl)) .nil), hK1⟩
   | false =>
    obtain ⟨he, hK2⟩ := hK
    have hC : (Z89 X Zc own X.L.length False fun i => Z0O X Zc own X.L.length i false []).Ok := Zg.withGoM (N := 20) (S := fun i => Z0O X Zc own X.L.length i false []) Z88 (by kernel_rfl) fun h => h.elim
    exact ⟨_, _, _, _, _, .evM hC (ZgC X own _ id am ex _ hash False rfl hI rfl he), by simp, .ret _ _ rfl, .cons _ _ _ _ _ _ rfl (.rows _ _ _ (fun _ _ => rfl)) .nil, hK2⟩
  ·exact hK0.elim
 ·exact hl.elim
end Go.Tk
end
