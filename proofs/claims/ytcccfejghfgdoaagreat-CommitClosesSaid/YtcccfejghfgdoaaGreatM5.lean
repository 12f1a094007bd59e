/- M: part 5 of an engine (a symbolic evaluator, proved against the model) and of the walk by it. -/
import Derived.Test.YtcccfejghfgdoaaGreatM4
import Derived.Test.YtcccfejghfgdoaaGreatRows
import Derived.ChangeOld
set_option linter.unusedVariables false
set_option linter.unusedSimpArgs false
section
namespace Go.Tk
structure InS.By (x : InS) : Prop where
  name : Bytes x.name
  tag : Bytes x.tag
  also : Bytes x.also
  secret : Bytes x.secret
structure OutS.By (x : OutS) : Prop where
  owner : Bytes x.owner
  other : Bytes x.other
  point : Bytes x.point
  hash : Bytes x.hash
structure TxAll (t : TxS) : Prop where
  ins : ∀ i, i < t.N → (t.ins i).By
  outs : ∀ i, i < t.M → (t.outs i).By
theorem TxAll.b {t : TxS} (h : TxAll t) : TxB t := ⟨fun i hi => ⟨(h.outs i hi).owner, (h.outs i hi).other⟩⟩
theorem pick {α : Type} [Inhabited α] {n : Nat} {p : Nat → α → Prop} (h : ∀ i, i < n → ∃ a, p i a) : ∃ f : Nat → α, ∀ i, i < n → p i (f i) :=
  ⟨fun i => if hi : i < n then Classical.choose (h i hi) else default, fun i hi => by
    simp only [hi, dite_true]
    exact Classical.choose_spec (h i hi)⟩
instance : Inhabited InS := ⟨inZ⟩
instance : Inhabited OutS := ⟨outZ⟩
theorem CallsA.conv {P : Program} {f : FuncId} {us bs : List AV} {h : Heap} {K : KO} (hc : CallsA P f bs h K) (hr : ∀ E rs, LRel E us rs → LRel E bs rs) : CallsA P f us h K :=
  fun E w rs he hl => hc E w rs he (hr E rs hl)
theorem Bytes.nil : Bytes [] := ⟨fun i => by simp⟩
theorem Bytes.cons {x : Int} {xs : List Int} (hx : 0 ≤ x ∧ x ≤ 255) (h : Bytes xs) : Bytes (x :: xs) := ⟨fun i => by
  cases i with
  | zero => simpa using hx
  | succ i => have := h.h i; simpa using this⟩
theorem Bytes.append {xs ys : List Int} (h : Bytes xs) (k : Bytes ys) : Bytes (xs ++ ys) := ⟨fun i => by
  rw [List.getD_eq_getElem?_getD, List.getElem?_append]
  split
  · have := h.h i; rwa [List.getD_eq_getElem?_getD] at this
  · have := k.h (i - xs.length); rwa [List.getD_eq_getElem?_getD] at this⟩
end Go.Tk
end
section
namespace Go.Tk
end Go.Tk
end
section
namespace Go.Tk
def mostO (a b c : Int) : Nat → Int
  | 0 => 0
  | i + 1 => if 2 ≤ IntKind.u32.wrap (IntKind.u32.wrap (Int.tmod (shrI .u32 a i) 2 + Int.tmod (shrI .u32 b i) 2) + Int.tmod (shrI .u32 c i) 2) then IntKind.u32.wrap (mostO a b c i + shlI .u32 1 i) else mostO a b c i
def pickO (a b c : Int) : Nat → Int
  | 0 => 0
  | i + 1 => IntKind.u32.wrap (pickO a b c i + shlI .u32 (if Int.tmod (shrI .u32 a i) 2 = 1 then Int.tmod (shrI .u32 b i) 2 else Int.tmod (shrI .u32 c i) 2) i)
@[irreducible] def mostR (a b c : Int) : Int := mostO a b c 32
@[irreducible] def pickR (a b c : Int) : Int := pickO a b c 32
end Go.Tk
end
section
namespace Go.Tk
def sg3 (a b c : Int) (w : Int) : Int := bXor .u32 (bXor .u32 (rotI w (32 - a)) (rotI w (32 - b))) (rotI w (32 - c))
def rg3 (a b n : Int) (w : Int) : Int := bXor .u32 (bXor .u32 (rotI w (32 - a)) (rotI w (32 - b))) (shrI .u32 w n)
def refB (bl : List Int) (t : Nat) : Int := IntKind.u32.wrap (IntKind.u32.wrap (IntKind.u32.wrap (shlI .u32 (IntKind.u32.wrap (bl.getD (4 * t) 0)) 24 + shlI .u32 (IntKind.u32.wrap (bl.getD (4 * t + 1) 0)) 16) + shlI .u32 (IntKind.u32.wrap (bl.getD (4 * t + 2) 0)) 8) + IntKind.u32.wrap (bl.getD (4 * t + 3) 0))
def refW (m : List Int) (t : Nat) : Int := IntKind.u32.wrap (IntKind.u32.wrap (IntKind.u32.wrap (rg3 17 19 10 (m.getD (t - 2) 0) + m.getD (t - 7) 0) + rg3 7 18 3 (m.getD (t - 15) 0)) + m.getD (t - 16) 0)
def refM (bl : List Int) : Nat → List Int
  | 0 => List.replicate 64 0
  | t + 1 => (refM bl t).set t (if t < 16 then refB bl t else refW (refM bl t) t)
theorem refM_len (bl : List Int) : ∀ t, (refM bl t).length = 64
  | 0 => rfl
  | t + 1 => by simp [refM, refM_len bl t]
def stepX (M P : Int → Int → Int → Int) (k m : Int) (x : List Int) : List Int :=
  let one := IntKind.u32.wrap (IntKind.u32.wrap (IntKind.u32.wrap (IntKind.u32.wrap (x.getD 7 0 + sg3 6 11 25 (x.getD 4 0)) + P (x.getD 4 0) (x.getD 5 0) (x.getD 6 0)) + k) + m)
  [IntKind.u32.wrap (one + IntKind.u32.wrap (sg3 2 13 22 (x.getD 0 0) + M (x.getD 0 0) (x.getD 1 0) (x.getD 2 0))), x.getD 0 0, x.getD 1 0, x.getD 2 0, IntKind.u32.wrap (x.getD 3 0 + one), x.getD 4 0, x.getD 5 0, x.getD 6 0]
attribute [irreducible] refM
end Go.Tk
end
section
namespace Go.Tk
end Go.Tk
end
section
namespace Go.Tk
end Go.Tk
end
section
namespace Go.Tk
end Go.Tk
end
section
namespace Go.Tk
def U32 (x : Int) : Prop := 0 ≤ x ∧ x < 4294967296
theorem wr32 (x : Int) : IntKind.u32.wrap x = x % 4294967296 := by
  unfold IntKind.wrap
  simp [IntKind.bits, IntKind.signed]
theorem wr32_U (x : Int) : U32 (IntKind.u32.wrap x) := by rw [wr32]; unfold U32; omega
theorem wr32_id {x : Int} (h : U32 x) : IntKind.u32.wrap x = x := by rw [wr32]; unfold U32 at h; omega
theorem bOr_U (x y : Int) : U32 (bOr .u32 x y) := wr32_U _
theorem bXor_nat (x y : Nat) (hx : x < 4294967296) (hy : y < 4294967296) : bXor .u32 x y = ((x ^^^ y : Nat) : Int) := by
  unfold bXor
  rw [wr32_id]
  · show (((BitVec.ofInt 32 (x : Int) ^^^ BitVec.ofInt 32 (y : Int)).toNat : Nat) : Int) = _
    rw [BitVec.toNat_xor, BitVec.ofInt_natCast, BitVec.ofInt_natCast, BitVec.toNat_ofNat, BitVec.toNat_ofNat, Nat.mod_eq_of_lt hx, Nat.mod_eq_of_lt hy]
  · unfold U32
    have := (BitVec.ofInt IntKind.u32.bits x ^^^ BitVec.ofInt IntKind.u32.bits y).isLt
    simp only [IntKind.bits] at this
    simp only [IntKind.bits]
    omega
theorem bOr_nat (x y : Nat) (hx : x < 4294967296) (hy : y < 4294967296) : bOr .u32 x y = ((x ||| y : Nat) : Int) := by
  unfold bOr
  rw [wr32_id]
  · show (((BitVec.ofInt 32 (x : Int) ||| BitVec.ofInt 32 (y : Int)).toNat : Nat) : Int) = _
    rw [BitVec.toNat_or, BitVec.ofInt_natCast, BitVec.ofInt_natCast, BitVec.toNat_ofNat, BitVec.toNat_ofNat, Nat.mod_eq_of_lt hx, Nat.mod_eq_of_lt hy]
  · unfold U32
    have := (BitVec.ofInt IntKind.u32.bits x ||| BitVec.ofInt IntKind.u32.bits y).isLt
    simp only [IntKind.bits] at this
    simp only [IntKind.bits]
    omega
theorem bAnd_nat (x y : Nat) (hx : x < 4294967296) (hy : y < 4294967296) : bAnd .u32 x y = ((x &&& y : Nat) : Int) := by
  unfold bAnd
  rw [wr32_id]
  · show (((BitVec.ofInt 32 (x : Int) &&& BitVec.ofInt 32 (y : Int)).toNat : Nat) : Int) = _
    rw [BitVec.toNat_and, BitVec.ofInt_natCast, BitVec.ofInt_natCast, BitVec.toNat_ofNat, BitVec.toNat_ofNat, Nat.mod_eq_of_lt hx, Nat.mod_eq_of_lt hy]
  · unfold U32
    have := (BitVec.ofInt IntKind.u32.bits x &&& BitVec.ofInt IntKind.u32.bits y).isLt
    simp only [IntKind.bits] at this
    simp only [IntKind.bits]
    omega
theorem U32.nat {x : Int} (h : U32 x) : ∃ n : Nat, x = n ∧ n < 4294967296 := ⟨x.toNat, by unfold U32 at h; omega, by unfold U32 at h; omega⟩
theorem U32.of {n : Nat} (h : n < 4294967296) : U32 (n : Int) := by unfold U32; omega
theorem bXor_comm {x y : Int} : bXor .u32 x y = bXor .u32 y x := by unfold bXor; rw [BitVec.xor_comm]
theorem bXor_assoc {x y z : Int} (hx : U32 x) (hy : U32 y) (hz : U32 z) : bXor .u32 (bXor .u32 x y) z = bXor .u32 x (bXor .u32 y z) := by
  obtain ⟨x, rfl, gx⟩ := hx.nat
  obtain ⟨y, rfl, gy⟩ := hy.nat
  obtain ⟨z, rfl, gz⟩ := hz.nat
  rw [bXor_nat x y gx gy, bXor_nat y z gy gz, bXor_nat _ z (Nat.xor_lt_two_pow (n := 32) gx gy) gz, bXor_nat x _ gx (Nat.xor_lt_two_pow (n := 32) gy gz), Nat.xor_assoc]
theorem bXor_zero {x : Int} (hx : U32 x) : bXor .u32 0 x = x := by
  obtain ⟨x, rfl, gx⟩ := hx.nat
  have := bXor_nat 0 x (by omega) gx
  simpa using this
theorem shr_nat (x n : Nat) (hn : n ≤ 32) : shrI .u32 x n = ((x / 2 ^ n : Nat) : Int) := by
  unfold shrI
  have : min (n : Int).toNat IntKind.u32.bits = n := by simp [IntKind.bits]; omega
  rw [this, Int.fdiv_eq_ediv_of_nonneg _ (Int.le_of_lt (Int.pow_pos (by decide)))]
  simp
theorem shr_U {x : Int} (hx : U32 x) (n : Nat) (hn : n ≤ 32) : U32 (shrI .u32 x n) := by
  obtain ⟨x, rfl, gx⟩ := hx.nat
  rw [shr_nat x n hn]
  exact U32.of (Nat.lt_of_le_of_lt (Nat.div_le_self x (2 ^ n)) gx)
theorem rotI_U (w n : Int) : U32 (rotI w n) := bOr_U _ _
theorem sg3_sig {w : Int} (hw : U32 w) (a b c : Int) : sg3 a b c w = sigI 32 [a, b, c] w := by
  obtain ⟨x, rfl, gx⟩ := hw.nat
  have h0 : shrI .u32 (x : Int) 32 = 0 := by
    rw [show (32 : Int) = ((32 : Nat) : Int) from rfl, shr_nat x 32 (by omega), Nat.div_eq_of_lt gx]
    rfl
  unfold sg3 sigI
  simp only [List.foldl_cons, List.foldl_nil, h0, bXor_zero (rotI_U _ _)]
theorem rg3_sig {w : Int} (hw : U32 w) (a b : Int) (n : Nat) (hn : n ≤ 32) : rg3 a b n w = sigI n [a, b] w := by
  have hs := shr_U hw n hn
  unfold rg3 sigI
  simp only [List.foldl_cons, List.foldl_nil]
  rw [bXor_comm, bXor_assoc hs (rotI_U _ _) (rotI_U _ _)]
theorem div_tmod2 (x i : Nat) (hi : i ≤ 32) : Int.tmod (shrI .u32 x i) 2 = (((x.testBit i).toNat : Nat) : Int) := by
  rw [shr_nat x i hi]
  rw [Int.tmod_eq_emod_of_nonneg (Int.natCast_nonneg _), Nat.toNat_testBit]
  rfl
theorem shl_bit (b : Bool) (i : Nat) (hi : i < 32) : shlI .u32 ((b.toNat : Nat) : Int) i = ((2 ^ i * b.toNat : Nat) : Int) := by
  unfold shlI
  have : min (i : Int).toNat IntKind.u32.bits = i := by simp [IntKind.bits]; omega
  rw [this]
  have h2 : (2 : Nat) ^ i < 2 ^ 32 := Nat.pow_lt_pow_right (by decide) hi
  have h3 : ((2 : Nat) ^ i * b.toNat) < 4294967296 := by cases b <;> simp_all
  rw [show ((b.toNat : Nat) : Int) * 2 ^ i = ((2 ^ i * b.toNat : Nat) : Int) by push_cast; rw [Int.mul_comm]]
  exact wr32_id (U32.of h3)
theorem mod_bit (x i : Nat) : x % 2 ^ (i + 1) = x % 2 ^ i + 2 ^ i * (x.testBit i).toNat := by
  rw [Nat.toNat_testBit, Nat.mod_pow_succ]
theorem add_bit (x i : Nat) (hx : x < 4294967296) (hi : i < 32) : IntKind.u32.wrap (((x % 2 ^ i : Nat) : Int) + ((2 ^ i * (x.testBit i).toNat : Nat) : Int)) = ((x % 2 ^ (i + 1) : Nat) : Int) := by
  rw [mod_bit]
  rw [wr32_id]
  · push_cast; rfl
  · rw [show ((x % 2 ^ i : Nat) : Int) + ((2 ^ i * (x.testBit i).toNat : Nat) : Int) = ((x % 2 ^ i + 2 ^ i * (x.testBit i).toNat : Nat) : Int) by push_cast; rfl, ← mod_bit]
    exact U32.of (Nat.lt_of_le_of_lt (Nat.mod_le _ _) hx)
theorem most_bits (a b c : Nat) (ha : a < 4294967296) (hb : b < 4294967296) (hc : c < 4294967296) : ∀ i, i ≤ 32 → mostO a b c i = (((a &&& (b ||| c) ||| b &&& c) % 2 ^ i : Nat) : Int)
  | 0, _ => by simp [mostO, Nat.mod_one]
  | i + 1, hi => by
    have hm : (a &&& (b ||| c) ||| b &&& c) < 4294967296 := Nat.or_lt_two_pow (n := 32) (Nat.lt_of_le_of_lt Nat.and_le_left ha) (Nat.lt_of_le_of_lt Nat.and_le_left hb)
    rw [mostO, most_bits a b c ha hb hc i (by omega), div_tmod2 a i (by omega), div_tmod2 b i (by omega), div_tmod2 c i (by omega), ← add_bit _ i hm (by omega)]
    have ht : (a &&& (b ||| c) ||| b &&& c).testBit i = (a.testBit i && (b.testBit i || c.testBit i) || b.testBit i && c.testBit i) := by simp
    rw [ht]
    have h1 := shl_bit true i (by omega)
    have hx : IntKind.u32.wrap (((a &&& (b ||| c) ||| b &&& c) % 2 ^ i : Nat) : Int) = (((a &&& (b ||| c) ||| b &&& c) % 2 ^ i : Nat) : Int) := wr32_id (U32.of (Nat.lt_of_le_of_lt (Nat.mod_le _ _) hm))
    rw [wr32, wr32]
    cases a.testBit i <;> cases b.testBit i <;> cases c.testBit i <;> simp at h1 hx ⊢ <;> first | rw [h1] | rw [hx]
theorem most_eq {a b c : Int} (ha : U32 a) (hb : U32 b) (hc : U32 c) : mostR a b c = bOr .u32 (bAnd .u32 a (bOr .u32 b c)) (bAnd .u32 b c) := by
  obtain ⟨a, rfl, ga⟩ := ha.nat
  obtain ⟨b, rfl, gb⟩ := hb.nat
  obtain ⟨c, rfl, gc⟩ := hc.nat
  have h1 := Nat.or_lt_two_pow (n := 32) gb gc
  have h2 : a &&& (b ||| c) < 4294967296 := Nat.lt_of_le_of_lt Nat.and_le_left ga
  have h3 : b &&& c < 4294967296 := Nat.lt_of_le_of_lt Nat.and_le_left gb
  rw [bOr_nat b c gb gc, bAnd_nat a _ ga h1, bAnd_nat b c gb gc, bOr_nat _ _ h2 h3]
  unfold mostR
  rw [most_bits a b c ga gb gc 32 (by omega), Nat.mod_eq_of_lt]
  exact Nat.or_lt_two_pow (n := 32) h2 h3
theorem pick_bits (a b c : Nat) (ha : a < 4294967296) (hb : b < 4294967296) (hc : c < 4294967296) : ∀ i, i ≤ 32 → pickO a b c i = (((c ^^^ (a &&& (b ^^^ c))) % 2 ^ i : Nat) : Int)
  | 0, _ => by simp [pickO, Nat.mod_one]
  | i + 1, hi => by
    have hm : (c ^^^ (a &&& (b ^^^ c))) < 4294967296 := Nat.xor_lt_two_pow (n := 32) hc (Nat.lt_of_le_of_lt Nat.and_le_left ha)
    rw [pickO, pick_bits a b c ha hb hc i (by omega), div_tmod2 a i (by omega), div_tmod2 b i (by omega), div_tmod2 c i (by omega), ← add_bit _ i hm (by omega)]
    have ht : (c ^^^ (a &&& (b ^^^ c))).testBit i = (c.testBit i ^^ (a.testBit i && (b.testBit i ^^ c.testBit i))) := by simp
    rw [ht]
    have h1 := shl_bit true i (by omega)
    have h0 := shl_bit false i (by omega)
    cases a.testBit i <;> cases b.testBit i <;> cases c.testBit i <;> simp at h1 h0 ⊢ <;> first | rw [h1] | rw [h0, Int.add_zero]
theorem pick_eq {a b c : Int} (ha : U32 a) (hb : U32 b) (hc : U32 c) : pickR a b c = bXor .u32 c (bAnd .u32 a (bXor .u32 b c)) := by
  obtain ⟨a, rfl, ga⟩ := ha.nat
  obtain ⟨b, rfl, gb⟩ := hb.nat
  obtain ⟨c, rfl, gc⟩ := hc.nat
  have h1 := Nat.xor_lt_two_pow (n := 32) gb gc
  have h2 : a &&& (b ^^^ c) < 4294967296 := Nat.lt_of_le_of_lt Nat.and_le_left ga
  rw [bXor_nat b c gb gc, bAnd_nat a _ ga h1, bXor_nat _ _ gc h2]
  unfold pickR
  rw [pick_bits a b c ga gb gc 32 (by omega), Nat.mod_eq_of_lt]
  exact Nat.xor_lt_two_pow (n := 32) gc h2
theorem refM_succ (bl : List Int) (t : Nat) : refM bl (t + 1) = (refM bl t).set t (if t < 16 then refB bl t else refW (refM bl t) t) := by rw [refM]
theorem refM_keep (bl : List Int) (s t : Nat) (hs : s < t) : ∀ u, (refM bl (t + u)).getD s 0 = (refM bl t).getD s 0
  | 0 => rfl
  | u + 1 => by
    rw [← Nat.add_assoc, refM_succ, ← refM_keep bl s t hs u]
    simp only [List.getD_eq_getElem?_getD]
    rw [List.getElem?_set_ne (by omega)]
@[irreducible] def schW (bl : List Int) (t : Nat) : Int := (refM bl 64).getD t 0
theorem schW_of (bl : List Int) {s t : Nat} (hs : s < t) (ht : t ≤ 64) : (refM bl t).getD s 0 = schW bl s := by
  unfold schW
  have := refM_keep bl s t hs (64 - t)
  rw [show t + (64 - t) = 64 by omega] at this
  exact this.symm
theorem schW_eq (bl : List Int) {t : Nat} (ht : t < 64) : schW bl t = if t < 16 then refB bl t else refW (refM bl t) t := by
  rw [← schW_of bl (Nat.lt_succ_self t) (by omega), refM_succ]
  simp only [List.getD_eq_getElem?_getD]
  rw [List.getElem?_set_self (by rw [refM_len]; omega)]
  rfl
theorem schW_lo (bl : List Int) {t : Nat} (ht : t < 16) : schW bl t = refB bl t := by rw [schW_eq bl (by omega), if_pos ht]
theorem schW_hi (bl : List Int) {t : Nat} (h16 : 16 ≤ t) (ht : t < 64) : schW bl t = IntKind.u32.wrap (IntKind.u32.wrap (IntKind.u32.wrap (rg3 17 19 10 (schW bl (t - 2)) + schW bl (t - 7)) + rg3 7 18 3 (schW bl (t - 15))) + schW bl (t - 16)) := by
  rw [schW_eq bl (by omega), if_neg (by omega)]
  unfold refW
  rw [schW_of bl (by omega) (by omega), schW_of bl (by omega) (by omega), schW_of bl (by omega) (by omega), schW_of bl (by omega) (by omega)]
theorem schW_U (bl : List Int) {t : Nat} (ht : t < 64) : U32 (schW bl t) := by
  by_cases h : t < 16
  · rw [schW_lo bl h]; exact wr32_U _
  · rw [schW_hi bl (by omega) ht]; exact wr32_U _
theorem mAt_nat (t : Nat) : mAt (t : Int) = t % 16 := by
  unfold mAt
  rw [tm (by omega)]
  omega
theorem atI_nat (i t : Nat) (hi : i < 8) (ht : t ≤ 64) : atI (i : Int) (t : Int) = (i + 64 - t) % 8 := by
  unfold atI
  rw [w64 (x := (i : Int) + 64) (by omega), w64 (by omega), tm (by omega)]
  omega
theorem getD_set (l : List Int) (i j : Nat) (x : Int) (hi : i < l.length) : (l.set i x).getD j 0 = if i = j then x else l.getD j 0 := by
  simp only [List.getD_eq_getElem?_getD]
  by_cases h : i = j
  · subst h
    rw [List.getElem?_set_self hi, if_pos rfl]; rfl
  · rw [List.getElem?_set_ne h, if_neg h]
def Ring (bl r : List Int) (t : Nat) : Prop := r.length = 16 ∧ ∀ s, s < max 16 t → max 16 t ≤ s + 16 → r.getD (s % 16) 0 = schW bl s
theorem Ring.step {bl r : List Int} {t : Nat} (h : Ring bl r t) (ht : t < 64) : Ring bl (shaM t r) (t + 1) := by
  obtain ⟨hl, hr⟩ := h
  refine ⟨by rw [shaM_len, hl], fun s h1 h2 => ?_⟩
  unfold shaM
  by_cases h16 : t < 16
  · rw [if_neg (by omega)]
    exact hr s (by omega) (by omega)
  · rw [if_pos (by omega)]
    have w1 : IntKind.i64.wrap ((t : Int) + 1) = ((t + 1 : Nat) : Int) := by rw [w64 (by omega)]; omega
    have w9 : IntKind.i64.wrap ((t : Int) + 9) = ((t + 9 : Nat) : Int) := by rw [w64 (by omega)]; omega
    have w14 : IntKind.i64.wrap ((t : Int) + 14) = ((t + 14 : Nat) : Int) := by rw [w64 (by omega)]; omega
    have r0 := hr (t - 16) (by omega) (by omega)
    have r1 := hr (t - 15) (by omega) (by omega)
    have r9 := hr (t - 7) (by omega) (by omega)
    have r14 := hr (t - 2) (by omega) (by omega)
    rw [show (t - 16) % 16 = t % 16 by omega] at r0
    rw [show (t - 15) % 16 = (t + 1) % 16 by omega] at r1
    rw [show (t - 7) % 16 = (t + 9) % 16 by omega] at r9
    rw [show (t - 2) % 16 = (t + 14) % 16 by omega] at r14
    rw [w1, w9, w14, mAt_nat, mAt_nat, mAt_nat, mAt_nat, r0, r1, r9, r14, getD_set _ _ _ _ (by rw [hl]; omega)]
    by_cases hs : s = t
    · subst hs
      rw [if_pos rfl, schW_hi bl (by omega) ht]
      have e1 := rg3_sig (schW_U bl (t := s - 2) (by omega)) 17 19 10 (by omega)
      have e2 := rg3_sig (schW_U bl (t := s - 15) (by omega)) 7 18 3 (by omega)
      rw [show ((10 : Nat) : Int) = 10 from rfl] at e1
      rw [show ((3 : Nat) : Int) = 3 from rfl] at e2
      rw [e1, e2]
      simp only [wr32]
      omega
    · rw [if_neg (by omega)]
      exact hr s (by omega) (by omega)
def U8 (x : Int) : Prop := 0 ≤ x ∧ x < 256
theorem shlI_32 (x n : Nat) (hn : n ≤ 32) (h : x * 2 ^ n < 4294967296) : shlI .u32 x n = ((x * 2 ^ n : Nat) : Int) := by
  unfold shlI
  have : min (n : Int).toNat IntKind.u32.bits = n := by simp [IntKind.bits]; omega
  rw [this, show (x : Int) * 2 ^ n = ((x * 2 ^ n : Nat) : Int) by push_cast; rfl]
  exact wr32_id (U32.of h)
theorem or_shl8 (x y : Nat) (hx : x < 16777216) (hy : y < 256) : bOr .u32 (shlI .u32 x 8) y = ((x * 256 + y : Nat) : Int) := by
  have := shlI_32 x 8 (by omega) (by omega)
  rw [show ((8 : Nat) : Int) = 8 from rfl] at this
  rw [this, bOr_nat _ _ (by omega) (by omega), ← Nat.shiftLeft_eq, ← Nat.shiftLeft_add_eq_or_of_lt (by omega), Nat.shiftLeft_eq]
theorem getD_all {P : Int → Prop} {l : List Int} (h : ∀ x ∈ l, P x) (h0 : P 0) (i : Nat) : P (l.getD i 0) := by
  rw [List.getD_eq_getElem?_getD]
  cases hg : l[i]? with
  | none => exact h0
  | some x => exact h x (List.mem_of_getElem? hg)
theorem U8.nat {x : Int} (h : U8 x) : ∃ n : Nat, x = n ∧ n < 256 := ⟨x.toNat, by unfold U8 at h; omega, by unfold U8 at h; omega⟩
theorem word_eq (bl : List Int) (hb : ∀ x ∈ bl, U8 x) (t : Nat) : word4 bl (4 * t) = refB bl t := by
  unfold word4 refB
  obtain ⟨a, ea, ha⟩ := (getD_all (P := U8) hb (by unfold U8; omega) (4 * t)).nat
  obtain ⟨b, eb, hb'⟩ := (getD_all (P := U8) hb (by unfold U8; omega) (4 * t + 1)).nat
  obtain ⟨c, ec, hc⟩ := (getD_all (P := U8) hb (by unfold U8; omega) (4 * t + 2)).nat
  obtain ⟨d, ed, hd⟩ := (getD_all (P := U8) hb (by unfold U8; omega) (4 * t + 3)).nat
  rw [ea, eb, ec, ed]
  rw [wr32_id (x := (a : Int)) (U32.of (by omega)), wr32_id (x := (b : Int)) (U32.of (by omega)), wr32_id (x := (c : Int)) (U32.of (by omega)), wr32_id (x := (d : Int)) (U32.of (by omega))]
  have z := or_shl8 0 a (by omega) ha
  have s0 : shlI .u32 0 8 = 0 := by decide
  rw [show shlI .u32 ((0 : Nat) : Int) 8 = 0 from s0] at z
  rw [z, or_shl8 _ b (by omega) hb', or_shl8 _ c (by omega) hc, or_shl8 _ d (by omega) hd]
  have g1 := shlI_32 a 24 (by omega) (by omega)
  have g2 := shlI_32 b 16 (by omega) (by omega)
  have g3 := shlI_32 c 8 (by omega) (by omega)
  rw [show ((24 : Nat) : Int) = 24 from rfl] at g1
  rw [show ((16 : Nat) : Int) = 16 from rfl] at g2
  rw [show ((8 : Nat) : Int) = 8 from rfl] at g3
  rw [g1, g2, g3]
  simp only [wr32]
  omega
theorem Ring.first (bl : List Int) (hb : ∀ x ∈ bl, U8 x) : Ring bl (words4 bl) 0 := by
  refine ⟨rfl, fun s h1 _ => ?_⟩
  have h16 : s < 16 := by omega
  rw [schW_lo bl h16, ← word_eq bl hb, Nat.mod_eq_of_lt h16]
  have : s = 0 ∨ s = 1 ∨ s = 2 ∨ s = 3 ∨ s = 4 ∨ s = 5 ∨ s = 6 ∨ s = 7 ∨ s = 8 ∨ s = 9 ∨ s = 10 ∨ s = 11 ∨ s = 12 ∨ s = 13 ∨ s = 14 ∨ s = 15 := by omega
  rcases this with rfl | rfl | rfl | rfl | rfl | rfl | rfl | rfl | rfl | rfl | rfl | rfl | rfl | rfl | rfl | rfl <;> rfl
def Turned (x y : List Int) (t : Nat) : Prop := x.length = 8 ∧ ∀ i, i < 8 → x.getD ((i + 64 - t) % 8) 0 = y.getD i 0
theorem Turned.step {x y m : List Int} {w : Int} {t : Nat} (h : Turned x y t) (hU : ∀ i, i < 8 → U32 (y.getD i 0)) (ht : t < 64) (hm : m.getD (t % 16) 0 = w) :
    Turned (shaX t m x) (stepX mostR pickR (shaK.getD t 0) w y) (t + 1) := by
  obtain ⟨hl, hr⟩ := h
  have a0 := atI_nat 0 t (by omega) (by omega)
  have a1 := atI_nat 1 t (by omega) (by omega)
  have a2 := atI_nat 2 t (by omega) (by omega)
  have a3 := atI_nat 3 t (by omega) (by omega)
  have a4 := atI_nat 4 t (by omega) (by omega)
  have a5 := atI_nat 5 t (by omega) (by omega)
  have a6 := atI_nat 6 t (by omega) (by omega)
  have a7 := atI_nat 7 t (by omega) (by omega)
  have h0 := hr 0 (by omega)
  have h1 := hr 1 (by omega)
  have h2 := hr 2 (by omega)
  have h3 := hr 3 (by omega)
  have h4 := hr 4 (by omega)
  have h5 := hr 5 (by omega)
  have h6 := hr 6 (by omega)
  have h7 := hr 7 (by omega)
  rw [← a0] at h0
  rw [← a1] at h1
  rw [← a2] at h2
  rw [← a3] at h3
  rw [← a4] at h4
  rw [← a5] at h5
  rw [← a6] at h6
  rw [← a7] at h7
  refine ⟨by rw [shaX_len, hl], ?_⟩
  have hadd : shaAdd t m x = IntKind.u32.wrap (IntKind.u32.wrap (IntKind.u32.wrap (IntKind.u32.wrap (y.getD 7 0 + sg3 6 11 25 (y.getD 4 0)) + pickR (y.getD 4 0) (y.getD 5 0) (y.getD 6 0)) + shaK.getD t 0) + w) := by
    unfold shaAdd
    rw [mAt_nat, hm]
    rw [show atI 7 (t : Int) = atI ((7 : Nat) : Int) t from rfl, show atI 4 (t : Int) = atI ((4 : Nat) : Int) t from rfl, show atI 5 (t : Int) = atI ((5 : Nat) : Int) t from rfl, show atI 6 (t : Int) = atI ((6 : Nat) : Int) t from rfl]
    rw [h4, h5, h6, h7, sg3_sig (hU 4 (by omega)), pick_eq (hU 4 (by omega)) (hU 5 (by omega)) (hU 6 (by omega))]
    rw [Nat.zero_add, Int.toNat_natCast]
  unfold shaX
  rw [hadd]
  rw [show atI 7 (t : Int) = atI ((7 : Nat) : Int) t from rfl, show atI 3 (t : Int) = atI ((3 : Nat) : Int) t from rfl, show atI 0 (t : Int) = atI ((0 : Nat) : Int) t from rfl, show atI 1 (t : Int) = atI ((1 : Nat) : Int) t from rfl, show atI 2 (t : Int) = atI ((2 : Nat) : Int) t from rfl]
  rw [h0, h1, h2, h3, ← most_eq (hU 0 (by omega)) (hU 1 (by omega)) (hU 2 (by omega)), ← sg3_sig (hU 0 (by omega)), a3, a7]
  intro i hi
  rw [getD_set _ _ _ _ (by rw [List.length_set, hl]; omega), getD_set _ _ _ _ (by rw [hl]; omega)]
  unfold stepX
  have : i = 0 ∨ i = 1 ∨ i = 2 ∨ i = 3 ∨ i = 4 ∨ i = 5 ∨ i = 6 ∨ i = 7 := by omega
  rcases this with rfl | rfl | rfl | rfl | rfl | rfl | rfl | rfl
  · rw [if_pos (by omega)]
    simp only [wr32, List.getD_cons_zero]
    omega
  · rw [if_neg (by omega), if_neg (by omega), show (1 + 64 - (t + 1)) % 8 = (0 + 64 - t) % 8 by omega, hr 0 (by omega)]; rfl
  · rw [if_neg (by omega), if_neg (by omega), show (2 + 64 - (t + 1)) % 8 = (1 + 64 - t) % 8 by omega, hr 1 (by omega)]; rfl
  · rw [if_neg (by omega), if_neg (by omega), show (3 + 64 - (t + 1)) % 8 = (2 + 64 - t) % 8 by omega, hr 2 (by omega)]; rfl
  · rw [if_neg (by omega), if_pos (by omega)]; rfl
  · rw [if_neg (by omega), if_neg (by omega), show (5 + 64 - (t + 1)) % 8 = (4 + 64 - t) % 8 by omega, hr 4 (by omega)]; rfl
  · rw [if_neg (by omega), if_neg (by omega), show (6 + 64 - (t + 1)) % 8 = (5 + 64 - t) % 8 by omega, hr 5 (by omega)]; rfl
  · rw [if_neg (by omega), if_neg (by omega), show (7 + 64 - (t + 1)) % 8 = (6 + 64 - t) % 8 by omega, hr 6 (by omega)]; rfl
def W8 (st : List Int) : Prop := st.length = 8 ∧ ∀ x ∈ st, U32 x
theorem W8.get {st : List Int} (h : W8 st) (i : Nat) : U32 (st.getD i 0) := getD_all h.2 (by unfold U32; omega) i
def blks (P : List Int → List Int → List Int) : Nat → List Int → List Int → List Int
  | 0, st, _ => st
  | n + 1, st, ms => blks P n (P st (ms.take 64)) (ms.drop 64)
theorem blks_succ (P : List Int → List Int → List Int) : ∀ (n : Nat) (st ms : List Int), blks P (n + 1) st ms = P (blks P n st ms) ((ms.drop (64 * n)).take 64)
  | 0, _, _ => rfl
  | n + 1, st, ms => by
    rw [blks, blks_succ P n, List.drop_drop]
    rw [show 64 + 64 * n = 64 * (n + 1) by omega]
    rfl
theorem blks_app (P : List Int → List Int → List Int) : ∀ (n : Nat) (st ms more : List Int), 64 * n ≤ ms.length → blks P n st (ms ++ more) = blks P n st ms
  | 0, _, _, _, _ => rfl
  | n + 1, st, ms, more, h => by
    rw [blks, blks, List.take_append_of_le_length (by omega), List.drop_append_of_le_length (by omega), blks_app P n _ _ _ (by rw [List.length_drop]; omega)]
structure Rep (r : RunS) (ms : List Int) : Prop where
  came : r.came = ms.length
  st : r.st = blks press (ms.length / 64) initR.st ms
  len : r.part.length = 64
  part : r.part.take (ms.length % 64) = ms.drop (64 * (ms.length / 64))
theorem Rep.ok {r : RunS} {ms : List Int} (h : Rep r ms) (h8 : r.st.length = 8) : r.Ok := ⟨h8, h.len, by rw [h.came]; omega⟩
theorem Rep.one {r : RunS} {ms : List Int} (h : Rep r ms) (bs : List Int) : Rep (r.one bs) (ms ++ wTk r.came bs) := by
  have ha : wAt r.came = ms.length % 64 := by
    unfold wAt
    rw [h.came, tm (by omega)]
    omega
  have hk : (wTk r.came bs).length ≤ 64 - ms.length % 64 := by
    unfold wTk
    rw [ha, List.length_take]
    omega
  have hdl : (ms.drop (64 * (ms.length / 64))).length = ms.length % 64 := by rw [List.length_drop]; omega
  have hp : wPart r.part r.came bs = ms.drop (64 * (ms.length / 64)) ++ wTk r.came bs ++ r.part.drop (ms.length % 64 + (wTk r.came bs).length) := by
    unfold wPart spl
    rw [ha, h.part]
  have hl : (wPart r.part r.came bs).length = 64 := by
    rw [hp, List.length_append, List.length_append, hdl, List.length_drop, h.len]
    omega
  have hst : (r.one bs).st = if ms.length % 64 + (wTk r.came bs).length = 64 then press r.st (wPart r.part r.came bs) else r.st := by
    show wSt _ _ _ _ = _
    unfold wSt
    rw [ha]
  have hca : (r.one bs).came = r.came + (wTk r.came bs).length := rfl
  have hpa : (r.one bs).part = wPart r.part r.came bs := rfl
  generalize wTk r.came bs = tk at *
  generalize wPart r.part r.came bs = pa at *
  have hal : (ms ++ tk).length = ms.length + tk.length := List.length_append
  refine ⟨by rw [hca, h.came, hal]; omega, ?_, by rw [hpa]; exact hl, ?_⟩
  · rw [hst, h.st]
    by_cases h64 : ms.length % 64 + tk.length = 64
    · rw [if_pos h64, hal, show (ms.length + tk.length) / 64 = ms.length / 64 + 1 by omega, blks_succ, blks_app _ _ _ _ _ (by omega)]
      congr 1
      rw [List.drop_append_of_le_length (by omega), hp, show r.part.drop (ms.length % 64 + tk.length) = [] from List.drop_eq_nil_of_le (by rw [h.len]; omega), List.append_nil, List.take_of_length_le (by rw [List.length_append, hdl]; omega)]
    · rw [if_neg h64, hal, show (ms.length + tk.length) / 64 = ms.length / 64 by omega, blks_app _ _ _ _ _ (by omega)]
  · rw [hpa, hal]
    by_cases h64 : ms.length % 64 + tk.length = 64
    · rw [show (ms.length + tk.length) % 64 = 0 by omega, List.take_zero, List.drop_eq_nil_of_le (by rw [hal]; omega)]
    · rw [show (ms.length + tk.length) / 64 = ms.length / 64 by omega, show (ms.length + tk.length) % 64 = ms.length % 64 + tk.length by omega, hp, List.drop_append_of_le_length (by omega)]
      rw [List.take_append_of_le_length (by rw [List.length_append, hdl]; omega)]
      exact List.take_of_length_le (by rw [List.length_append, hdl]; omega)
theorem Rep.many : ∀ (n : Nat) (r : RunS) (ms bs : List Int), r.Ok → Rep r ms → bs.length ≤ n → Rep (RunS.many n r bs).1 (ms ++ bs)
  | 0, r, ms, bs, _, h, hn => by
    have : bs = [] := List.eq_nil_of_length_eq_zero (by omega)
    subst this
    rw [List.append_nil]
    exact h
  | n + 1, r, ms, bs, hr, h, hn => by
    unfold RunS.many
    split
    · rw [List.append_nil]; exact h
    · rename_i b bs
      have hp := wTk_pos hr (bs := b :: bs) (by simp)
      have hb : (b :: bs) = wTk r.came (b :: bs) ++ (b :: bs).drop (wTk r.came (b :: bs)).length := by
        unfold wTk
        rw [List.length_take]
        by_cases h : 64 - wAt r.came ≤ (b :: bs).length
        · rw [Nat.min_eq_left h, List.take_append_drop]
        · rw [Nat.min_eq_right (by omega), List.take_of_length_le (by omega), List.drop_length, List.append_nil]
      have := Rep.many n _ _ ((b :: bs).drop (wTk r.came (b :: bs)).length) (hr.one _) (h.one (b :: bs)) (by rw [List.length_drop]; simp only [List.length_cons] at hn ⊢; omega)
      rw [List.append_assoc, ← hb] at this
      exact this
theorem Rep.write {r : RunS} {ms : List Int} (hr : r.Ok) (h : Rep r ms) (bs : List Int) : Rep (r.write bs) (ms ++ bs) := by
  unfold RunS.write
  exact Rep.many _ _ _ _ hr h (Nat.le_refl _)
def refPad (bs : List Int) : List Int := bs ++ padB bs.length ++ len8 bs.length
def shaAll (P : List Int → List Int → List Int) (bs : List Int) : List Int := hashB (blks P ((refPad bs).length / 64) initR.st (refPad bs))
theorem Rep.fin {r : RunS} {ms : List Int} (hr : r.Ok) (h : Rep r ms) : r.fin = shaAll press ms := by
  have h1 := h.write hr (padB r.came)
  have h2 := h1.write (write_ok _ _ hr) (len8 r.came)
  unfold RunS.fin shaAll
  rw [h2.st, h.came]
  rfl
end Go.Tk
end
section
namespace Go.Tk
end Go.Tk
end
section
namespace Go.Tk
end Go.Tk
end
section
namespace Go.Tk
end Go.Tk
end
section
namespace Go.Tk
theorem Bytes.u8 {xs : List Int} (h : Bytes xs) : ∀ x ∈ xs, U8 x := by
  intro x hx
  obtain ⟨i, hi, rfl⟩ := List.getElem_of_mem hx
  have := h.h i
  rw [List.getD_eq_getElem?_getD, List.getElem?_eq_getElem hi] at this
  simp at this
  unfold U8
  omega
theorem Bytes.of {xs : List Int} (h : ∀ x ∈ xs, U8 x) : Bytes xs := ⟨fun i => by
  have := getD_all (P := U8) h (by unfold U8; omega) i
  unfold U8 at this
  omega⟩
end Go.Tk
end
section
namespace Go.Tk
structure TermS where
  fund : List Int
  index : Int
  cap : Int
  dust : Int
  fee : Int
  delay : Int
  k0 : List Int
  k1 : List Int
def TermS.c (t : TermS) : List AV := [.arr .u8 32 t.fund, .int .i64 t.index, .int .i64 t.cap, .int .i64 t.dust, .int .i64 t.fee, .int .i64 t.delay, .arr .u8 32 t.k0, .arr .u8 32 t.k1]
structure TermS.Ok (t : TermS) : Prop where
  k0 : t.k0.length = 32
  k1 : t.k1.length = 32
  b0 : Bytes t.k0
  b1 : Bytes t.k1
def termB (t : TermS) : Bool := decide (0 ≤ t.index ∧ t.index ≤ 23) && decide (1000 ≤ t.cap ∧ t.cap ≤ 1125899906842624) && decide (1 ≤ t.dust ∧ t.dust ≤ 500) && decide (0 ≤ t.fee ∧ t.fee ≤ 400) && decide (1 ≤ t.delay ∧ t.delay ≤ 1000) && (t.k0 != t.k1)
theorem iteB_eq2 (b : Bool) (x y : Prop) : iteB b x y = ((b = true → x) ∧ (b = false → y)) := by cases b <;> simp [iteB]
set_option maxRecDepth 100000 in
set_option maxHeartbeats 0 in
theorem in_37 (n a b : Int) (r : Bool) (hr : r = decide (a ≤ n ∧ n ≤ b)) :
    evF G0 20 90 [.int .i64 n, .int .i64 a, .int .i64 b] ⟨0, []⟩ (outV (fun v => v = .bool r)) := by
  refine @Eq.mpr _ (iteB (decide (a ≤ n)) (AV.bool (decide (n ≤ b)) = AV.bool r) (AV.bool false = AV.bool r)) (by kernel_rfl) ?_
  simp only [iteB_eq2]
  subst hr
  by_cases h1 : a ≤ n <;> by_cases h2 : n ≤ b <;> simp [h1, h2]
def inQ : PSumm := fun args _ K => match args with
  | [.int .i64 n, .int .i64 a, .int .i64 b] => K (.bool (decide (a ≤ n ∧ n ≤ b)))
  | _ => False
theorem inQ_ok (args : List AV) (h : Heap) (K : AV → Prop) (hl : inQ args h K) : CallsA PP 90 args h fun o h' => ∃ v, o = .ret v ∧ h' = h ∧ K v := by
  unfold inQ at hl
  split at hl
  · exact outV_ev G0_ok rfl (in_37 _ _ _ _ rfl) (fun u hu => hu ▸ hl)
  · exact hl.elim
noncomputable def E71 : Env2 := G0.withP 90 inQ
theorem E71_ok : E71.Ok := Env2.withP_ok G0_ok inQ_ok
set_option maxRecDepth 100000 in
set_option maxHeartbeats 0 in
theorem te_24 (t : TermS) (e : Int) (ht : t.Ok) (he : e = if termB t = true then 0 else 2) :
    evF E71 20 40 [.agg t.c] ⟨0, []⟩ (outV (fun v => v = .int .i64 e)) := by
  refine @Eq.mpr _ (let q1 := AV.int IntKind.i64 2 = AV.int IntKind.i64 e;
 iteB (decide (List.length t.k0 = 32 ∧ List.length t.k1 = 32)) (iteB (false == decide (0 ≤ t.index ∧ t.index ≤ 23)) q1 (iteB (false == decide (1000 ≤ t.cap ∧ t.cap ≤ 1125899906842624)) q1 (iteB (false == decide (1 ≤ t.dust ∧ t.dust ≤ 500)) q1 (iteB (false == decide (0 ≤ t.fee ∧ t.fee ≤ 400)) q1 (iteB (false == decide (1 ≤ t.delay ∧ t.delay ≤ 1000)) q1 (iteB (false == !t.k0 == t.k1) q1 (AV.int IntKind.i64 0 = AV.int IntKind.i64 e))))))) False) (by kernel_rfl) ?_
  conv => zeta
  try simp only [need_eq]
  try simp only [nope_eq]
  try simp only [iteD_eq]
  try simp only [iteT_eq]
  try simp only [iteF_eq]
  try simp only [iteE_eq]
  try simp only [Int.toNat_natCast, Nat.zero_add, true_and, and_true, Nat.le_refl]
  unfold termB at he
  refine ⟨⟨ht.k0, ht.k1⟩, ?_⟩
  generalize decide (0 ≤ t.index ∧ t.index ≤ 23) = c1 at *
  generalize decide (1000 ≤ t.cap ∧ t.cap ≤ 1125899906842624) = c2 at *
  generalize decide (1 ≤ t.dust ∧ t.dust ≤ 500) = c3 at *
  generalize decide (0 ≤ t.fee ∧ t.fee ≤ 400) = c4 at *
  generalize decide (1 ≤ t.delay ∧ t.delay ≤ 1000) = c5 at *
  have h6 : (t.k0 != t.k1) = !(t.k0 == t.k1) := rfl
  rw [h6] at he
  generalize (t.k0 == t.k1) = c6 at *
  cases c1 <;> cases c2 <;> cases c3 <;> cases c4 <;> cases c5 <;> cases c6 <;> simp_all
set_option maxRecDepth 100000 in
set_option maxHeartbeats 0 in
theorem te_23 (t : TermS) (b : Bool) (ht : t.Ok) (hb : b = termB t) :
    evF G0 20 39 [.agg t.c] ⟨0, []⟩ (outV (fun v => v = .bool b)) := by
  refine @Eq.mpr _ (let q1 := t.cap;
 let q2 := AV.bool false = AV.bool b;
 iteB (decide (t.index ≥ 0)) (iteB (decide (t.index < 24)) (iteB (decide (q1 ≥ 1000)) (iteB (decide (q1 ≥ 0)) (iteB (decide (q1 ≤ 1125899906842624)) (iteB (decide (t.dust ≥ 1)) (iteB (decide (t.dust ≤ 500)) (iteB (decide (t.fee ≥ 0)) (iteB (decide (t.fee ≤ 400)) (iteB (decide (t.delay ≥ 1)) (iteB (decide (t.delay ≤ 1000)) (iteB (decide (List.length t.k0 = 32 ∧ List.length t.k1 = 32)) ((AV.bool !t.k0 == t.k1) = AV.bool b) False) q2) q2) q2) q2) q2) q2) q2) q2) q2) q2) q2) (by kernel_rfl) ?_
  conv => zeta
  try simp only [need_eq]
  try simp only [nope_eq]
  try simp only [iteD_eq]
  try simp only [iteT_eq]
  try simp only [iteF_eq]
  try simp only [iteE_eq]
  try simp only [Int.toNat_natCast, Nat.zero_add, true_and, and_true, Nat.le_refl]
  subst hb
  unfold termB
  repeat' (first | (refine And.intro ?_ ?_) | intro _ | fail)
  all_goals first
    | exact ht.k0
    | exact ht.k1
    | (congr 1; symm; rw [Bool.eq_false_iff]; simp only [ne_eq, Bool.and_eq_true, decide_eq_true_eq]; intro h; omega)
    | (congr 1; have h1 : (0 ≤ t.index ∧ t.index ≤ 23) := (by omega); have h2 : (1000 ≤ t.cap ∧ t.cap ≤ 1125899906842624) := (by omega); have h3 : (1 ≤ t.dust ∧ t.dust ≤ 500) := (by omega); have h4 : (0 ≤ t.fee ∧ t.fee ≤ 400) := (by omega); have h5 : (1 ≤ t.delay ∧ t.delay ≤ 1000) := (by omega); rw [decide_eq_true h1, decide_eq_true h2, decide_eq_true h3, decide_eq_true h4, decide_eq_true h5]; rfl)
theorem iteB_eq' (b : Bool) (x y : Prop) : iteB b x y = ((b = true → x) ∧ (b = false → y)) := by cases b <;> simp [iteB]
theorem ord_go {x y : List Int} {b : Int} {i : Nat} {P : Prop} (hx : i < x.length) (hy : i < y.length) (bx : Bytes x) (yb : Bytes y) (hb : b = cmpI (x.drop i) (y.drop i)) (hP : b = cmpI (x.drop (i + 1)) (y.drop (i + 1)) → P) :
    iteB (decide (x.getD i 0 < y.getD i 0)) (AV.int .i64 (-1) = AV.int .i64 b) (iteB (decide (x.getD i 0 > y.getD i 0)) (AV.int .i64 1 = AV.int .i64 b) P) := by
  have e1 : x.drop i = x.getD i 0 :: x.drop (i + 1) := by rw [List.drop_eq_getElem_cons hx]; simp [List.getD_eq_getElem?_getD, hx]
  have e2 : y.drop i = y.getD i 0 :: y.drop (i + 1) := by rw [List.drop_eq_getElem_cons hy]; simp [List.getD_eq_getElem?_getD, hy]
  rw [e1, e2] at hb
  have k1 := toU8_eq (bx.getD i) (yb.getD i)
  have k2 := toU8_eq (yb.getD i) (bx.getD i)
  generalize x.getD i 0 = u at *
  generalize y.getD i 0 = v at *
  simp only [cmpI, List.map_cons, Lib.compareBytes, k1.2, k2.2] at hb
  rw [iteB_eq', iteB_eq']
  refine ⟨fun h => ?_, fun h => ⟨fun h' => ?_, fun h' => ?_⟩⟩
  · have h : u < v := by simpa using h
    rw [hb, if_pos h]
  · have h : ¬ u < v := by simpa using h
    have h' : v < u := by simpa using h'
    rw [hb, if_neg h, if_pos h']
  · have h : ¬ u < v := by simpa using h
    have h' : ¬ v < u := by simpa using h'
    rw [if_neg h, if_neg h'] at hb
    exact hP hb
set_option maxRecDepth 100000 in
set_option maxHeartbeats 0 in
theorem or_50 (x y : List Int) (b : Int) (hx : x.length = 32) (hy : y.length = 32) (bx : Bytes x) (yb : Bytes y) (hb : b = cmpI (x.drop 0) (y.drop 0)) :
    evF G0 20 102 [.agg [.arr .u8 32 x], .agg [.arr .u8 32 y]] ⟨0, []⟩ (outV (fun v => v = .int .i64 b)) := by
  refine @Eq.mpr _ (let q1 := AV.int IntKind.i64 b;
 let q2 := AV.int IntKind.i64 (-1) = q1;
 let q3 := AV.int IntKind.i64 1 = q1;
 iteB (decide (List.getD x 0 0 < List.getD y 0 0)) q2
 (iteB (decide (List.getD x 0 0 > List.getD y 0 0)) q3
 (iteB (decide (List.getD x 1 0 < List.getD y 1 0)) q2
 (iteB (decide (List.getD x 1 0 > List.getD y 1 0)) q3
 (iteB (decide (List.getD x 2 0 < List.getD y 2 0)) q2
 (iteB (decide (List.getD x 2 0 > List.getD y 2 0)) q3
 (iteB (decide (List.getD x 3 0 < List.getD y 3 0)) q2
 (iteB (decide (List.getD x 3 0 > List.getD y 3 0)) q3
 (iteB (decide (List.getD x 4 0 < List.getD y 4 0)) q2
 (iteB (decide (List.getD x 4 0 > List.getD y 4 0)) q3
 (iteB (decide (List.getD x 5 0 < List.getD y 5 0)) q2
 (iteB (decide (List.getD x 5 0 > List.getD y 5 0)) q3
 (iteB (decide (List.getD x 6 0 < List.getD y 6 0)) q2
 (iteB (decide (List.getD x 6 0 > List.getD y 6 0)) q3
 (iteB (decide (List.getD x 7 0 < List.getD y 7 0)) q2
 (iteB (decide (List.getD x 7 0 > List.getD y 7 0)) q3
 (iteB (decide (List.getD x 8 0 < List.getD y 8 0)) q2
 (iteB (decide (List.getD x 8 0 > List.getD y 8 0)) q3
 (iteB (decide (List.getD x 9 0 < List.getD y 9 0)) q2
 (iteB (decide (List.getD x 9 0 > List.getD y 9 0)) q3
 (iteB (decide (List.getD x 10 0 < List.getD y 10 0)) q2
 (iteB (decide (List.getD x 10 0 > List.getD y 10 0)) q3
 (iteB (decide (List.getD x 11 0 < List.getD y 11 0)) q2
 (iteB (decide (List.getD x 11 0 > List.getD y 11 0)) q3
 (iteB (decide (List.getD x 12 0 < List.getD y 12 0)) q2
 (iteB (decide (List.getD x 12 0 > List.getD y 12 0)) q3
 (iteB (decide (List.getD x 13 0 < List.getD y 13 0)) q2
 (iteB (decide (List.getD x 13 0 > List.getD y 13 0)) q3
 (iteB (decide (List.getD x 14 0 < List.getD y 14 0)) q2
 (iteB (decide (List.getD x 14 0 > List.getD y 14 0)) q3
 (iteB (decide (List.getD x 15 0 < List.getD y 15 0)) q2
 (iteB (decide (List.getD x 15 0 > List.getD y 15 0)) q3
 (iteB (decide (List.getD x 16 0 < List.getD y 16 0)) q2
 (iteB (decide (List.getD x 16 0 > List.getD y 16 0)) q3
 (iteB (decide (List.getD x 17 0 < List.getD y 17 0)) q2
 (iteB (decide (List.getD x 17 0 > List.getD y 17 0)) q3
 (iteB (decide (List.getD x 18 0 < List.getD y 18 0)) q2
 (iteB (decide (List.getD x 18 0 > List.getD y 18 0)) q3
 (iteB (decide (List.getD x 19 0 < List.getD y 19 0)) q2
 (iteB (decide (List.getD x 19 0 > List.getD y 19 0)) q3
 (iteB (decide (List.getD x 20 0 < List.getD y 20 0)) q2
 (iteB (decide (List.getD x 20 0 > List.getD y 20 0)) q3
 (iteB (decide (List.getD x 21 0 < List.getD y 21 0)) q2
 (iteB (decide (List.getD x 21 0 > List.getD y 21 0)) q3
 (iteB (decide (List.getD x 22 0 < List.getD y 22 0)) q2
 (iteB (decide (List.getD x 22 0 > List.getD y 22 0)) q3
 (iteB (decide (List.getD x 23 0 < List.getD y 23 0)) q2
 (iteB (decide (List.getD x 23 0 > List.getD y 23 0)) q3
 (iteB (decide (List.getD x 24 0 < List.getD y 24 0)) q2 (iteB (decide (List.getD x 24 0 > List.getD y 24 0)) q3 (iteB (decide (List.getD x 25 0 < List.getD y 25 0)) q2 (iteB (decide (List.getD x 25 0 > List.getD y 25 0)) q3 (iteB (decide (List.getD x 26 0 < List.getD y 26 0)) q2 (iteB (decide (List.getD x 26 0 > List.getD y 26 0)) q3 (iteB (decide (List.getD x 27 0 < List.getD y 27 0)) q2 (iteB (decide (List.getD x 27 0 > List.getD y 27 0)) q3 (iteB (decide (List.getD x 28 0 < List.getD y 28 0)) q2 (iteB (decide (List.getD x 28 0 > List.getD y 28 0)) q3 (iteB (decide (List.getD x 29 0 < List.getD y 29 0)) q2 (iteB (decide (List.getD x 29 0 > List.getD y 29 0)) q3 (iteB (decide (List.getD x 30 0 < List.getD y 30 0)) q2 (iteB (decide (List.getD x 30 0 > List.getD y 30 0)) q3 (iteB (decide (List.getD x 31 0 < List.getD y 31 0)) q2 (iteB (decide (List.getD x 31 0 > List.getD y 31 0)) q3 (AV.int IntKind.i64 0 = q1))))))))))))))))))))))))))))))))))))))))))))))))))))))))))))))))) (by kernel_rfl) ?_
  conv => zeta
  iterate 32 refine ord_go (by omega) (by omega) bx yb hb fun hb => ?_
  rw [List.drop_eq_nil_of_le (by omega), List.drop_eq_nil_of_le (by omega)] at hb
  have h0 : cmpI [] [] = 0 := rfl
  rw [hb, h0]
def termS : PSumm := fun args _ K => match args with
  | [.agg [.arr .u8 32 fu, .int .i64 ix, .int .i64 ca, .int .i64 du, .int .i64 fe, .int .i64 de, .arr .u8 32 k0, .arr .u8 32 k1]] => (TermS.Ok ⟨fu, ix, ca, du, fe, de, k0, k1⟩) ∧ K (.int .i64 (if termB ⟨fu, ix, ca, du, fe, de, k0, k1⟩ = true then 0 else 2))
  | _ => False
theorem termS_ok (args : List AV) (h : Heap) (K : AV → Prop) (hl : termS args h K) : CallsA PP 40 args h fun o h' => ∃ v, o = .ret v ∧ h' = h ∧ K v := by
  unfold termS at hl
  split at hl
  · obtain ⟨ht, hK⟩ := hl
    exact outV_ev E71_ok rfl (te_24 ⟨_, _, _, _, _, _, _, _⟩ _ ht rfl) (fun u hu => hu ▸ hK)
  · exact hl.elim
def termRS : PSumm := fun args _ K => match args with
  | [.agg [.arr .u8 32 fu, .int .i64 ix, .int .i64 ca, .int .i64 du, .int .i64 fe, .int .i64 de, .arr .u8 32 k0, .arr .u8 32 k1]] => (TermS.Ok ⟨fu, ix, ca, du, fe, de, k0, k1⟩) ∧ K (.bool (termB ⟨fu, ix, ca, du, fe, de, k0, k1⟩))
  | _ => False
theorem termRS_ok (args : List AV) (h : Heap) (K : AV → Prop) (hl : termRS args h K) : CallsA PP 39 args h fun o h' => ∃ v, o = .ret v ∧ h' = h ∧ K v := by
  unfold termRS at hl
  split at hl
  · obtain ⟨ht, hK⟩ := hl
    exact outV_ev G0_ok rfl (te_23 ⟨_, _, _, _, _, _, _, _⟩ _ ht rfl) (fun u hu => hu ▸ hK)
  · exact hl.elim
def ordS : PSumm := fun args _ K => match args with
  | [.agg [.arr .u8 32 x], .agg [.arr .u8 32 y]] => (x.length = 32 ∧ y.length = 32) ∧ Bytes x ∧ Bytes y ∧ K (.int .i64 (cmpI x y))
  | _ => False
theorem ordS_ok (args : List AV) (h : Heap) (K : AV → Prop) (hl : ordS args h K) : CallsA PP 102 args h fun o h' => ∃ v, o = .ret v ∧ h' = h ∧ K v := by
  unfold ordS at hl
  split at hl
  · obtain ⟨⟨h1, h2⟩, b1, b2, hK⟩ := hl
    exact outV_ev G0_ok rfl (or_50 _ _ _ h1 h2 b1 b2 rfl) (fun u hu => hu ▸ hK)
  · exact hl.elim
def works8S : PSumm := fun args _ K => match args with
  | [] => K (.bool true)
  | _ => False
end Go.Tk
end
section
namespace Go.Tk
def insL {α : Type} (lt : α → α → Bool) (x : α) : List α → List α
  | [] => [x]
  | y :: r => match lt x y with
    | true => x :: y :: r
    | false => y :: insL lt x r
def sortL {α : Type} (lt : α → α → Bool) : List α → List α → List α
  | acc, [] => acc
  | acc, x :: r => sortL lt (insL lt x acc) r
def OrdL {α : Type} (lt : α → α → Bool) (l : List α) : Prop := l.Pairwise fun a b => lt b a = false
structure WO {α : Type} (lt : α → α → Bool) : Prop where
  asym : ∀ x y, lt x y = true → lt y x = false
  neg : ∀ x y z, lt x y = true → lt z y = false → lt x z = true
theorem insL_mem {α : Type} {lt : α → α → Bool} {x z : α} : ∀ {l : List α}, z ∈ insL lt x l ↔ z = x ∨ z ∈ l
  | [] => by simp [insL]
  | y :: r => by
    unfold insL
    split
    · simp
    · simp only [List.mem_cons, insL_mem (l := r)]
      constructor <;> (intro h; rcases h with h | h | h <;> simp [h])
theorem insL_len {α : Type} {lt : α → α → Bool} {x : α} : ∀ {l : List α}, (insL lt x l).length = l.length + 1
  | [] => rfl
  | y :: r => by
    unfold insL
    split
    · simp
    · simp [insL_len (l := r)]
theorem insL_perm {α : Type} {lt : α → α → Bool} {x : α} : ∀ {l : List α}, (insL lt x l).Perm (x :: l)
  | [] => .refl _
  | y :: r => by
    unfold insL
    split
    · exact .refl _
    · exact (List.Perm.cons y insL_perm).trans (List.Perm.swap x y r)
theorem insL_ord {α : Type} {lt : α → α → Bool} (wo : WO lt) {x : α} : ∀ {l : List α}, OrdL lt l → OrdL lt (insL lt x l)
  | [], _ => by simp [insL, OrdL]
  | y :: r, h => by
    unfold OrdL at h
    rw [List.pairwise_cons] at h
    unfold insL
    split
    · rename_i hx
      unfold OrdL
      rw [List.pairwise_cons, List.pairwise_cons]
      refine ⟨fun z hz => ?_, h.1, h.2⟩
      rcases List.mem_cons.1 hz with rfl | hz
      · exact wo.asym _ _ hx
      · cases hzx : lt z x with
        | false => rfl
        | true =>
          have := h.1 z hz
          -- z < x < y, so z < y
          have h2 := wo.neg z x y hzx (wo.asym _ _ hx)
          rw [h2] at this; cases this
    · rename_i hx
      unfold OrdL
      rw [List.pairwise_cons]
      refine ⟨fun z hz => ?_, insL_ord wo h.2⟩
      rcases insL_mem.1 hz with rfl | hz
      · exact hx
      · exact h.1 z hz
theorem insL_at {α : Type} {lt : α → α → Bool} (wo : WO lt) {x : α} : ∀ {l : List α} {j : Nat}, OrdL lt l → j ≤ l.length → (∀ y ∈ l.drop j, lt x y = true) → (∀ y, l[j - 1]? = some y → 0 < j → lt x y = false) →
    l.take j ++ x :: l.drop j = insL lt x l
  | [], j, _, hj, _, _ => by simp at hj; simp [insL]
  | y :: r, 0, _, _, h1, _ => by
    have := h1 y (by simp)
    unfold insL
    rw [this]; simp
  | y :: r, j + 1, ho, hj, h1, h2 => by
    unfold OrdL at ho
    rw [List.pairwise_cons] at ho
    have hy : lt x y = false := by
      cases hxy : lt x y with
      | false => rfl
      | true =>
        cases j with
        | zero => rw [h2 y (by simp) (by omega)] at hxy; cases hxy
        | succ k =>
          simp at hj
          have hk : k < r.length := by omega
          have h3 := h2 r[k] (by simp [hk]) (by omega)
          have h4 := ho.1 r[k] (List.getElem_mem hk)
          rw [wo.neg x y _ hxy h4] at h3; cases h3
    unfold insL
    rw [hy]
    simp only [List.take_succ_cons, List.drop_succ_cons, List.cons_append, List.cons.injEq, true_and]
    refine insL_at wo ho.2 (by simpa using hj) (by simpa using h1) fun z hz hj' => h2 z ?_ (by omega)
    cases j with
    | zero => omega
    | succ k => simpa using hz
theorem sortL_ord {α : Type} {lt : α → α → Bool} (wo : WO lt) : ∀ {l acc : List α}, OrdL lt acc → OrdL lt (sortL lt acc l)
  | [], _, h => h
  | _ :: _, _, h => by unfold sortL; exact sortL_ord wo (insL_ord wo h)
theorem sortL_perm {α : Type} {lt : α → α → Bool} : ∀ {l acc : List α}, (sortL lt acc l).Perm (acc ++ l)
  | [], acc => by simp [sortL]
  | x :: r, acc => by
    unfold sortL
    refine sortL_perm.trans ?_
    refine (List.Perm.append_right r insL_perm).trans ?_
    rw [List.cons_append]
    exact List.perm_middle.symm
theorem sortL_len {α : Type} {lt : α → α → Bool} {l acc : List α} : (sortL lt acc l).length = acc.length + l.length := by
  rw [(sortL_perm (lt := lt)).length_eq, List.length_append]
theorem sortL_snoc {α : Type} {lt : α → α → Bool} {x : α} : ∀ {l acc : List α}, sortL lt acc (l ++ [x]) = insL lt x (sortL lt acc l)
  | [], acc => rfl
  | y :: r, acc => by
    simp only [List.cons_append, sortL]
    exact sortL_snoc
end Go.Tk
end
section
namespace Go.Tk
def valU : List Int → Nat
  | [] => 0
  | a :: r => (toU8 a).toNat * 256 ^ r.length + valU r
theorem valU_lt : ∀ (x : List Int), valU x < 256 ^ x.length
  | [] => by simp [valU]
  | a :: r => by
    have h1 := valU_lt r
    have h2 := (toU8 a).toNat_lt
    simp only [valU, List.length_cons, Nat.pow_succ]
    have h3 : (toU8 a).toNat * 256 ^ r.length ≤ 255 * 256 ^ r.length := Nat.mul_le_mul_right _ (by omega)
    omega
theorem cmpI_val : ∀ (x y : List Int), x.length = y.length → cmpI x y = if valU x < valU y then -1 else if valU y < valU x then 1 else 0
  | [], [], _ => by simp [cmpI, Lib.compareBytes, valU]
  | [], b :: s, h => by simp at h
  | a :: r, [], h => by simp at h
  | a :: r, b :: s, h => by
    have h' : r.length = s.length := by simpa using h
    have ih := cmpI_val r s h'
    have e1 : valU (a :: r) = (toU8 a).toNat * 256 ^ r.length + valU r := rfl
    have e2 : valU (b :: s) = (toU8 b).toNat * 256 ^ r.length + valU s := by rw [h']; rfl
    have e3 : cmpI (a :: r) (b :: s) = if (toU8 a).toNat < (toU8 b).toNat then -1 else if (toU8 b).toNat < (toU8 a).toNat then 1 else cmpI r s := by
      unfold cmpI; simp only [List.map_cons, Lib.compareBytes, UInt8.lt_iff_toNat_lt]
    have h1 := valU_lt r
    have h2 := valU_lt s
    rw [← h'] at h2
    rw [e3]
    generalize valU (a :: r) = A at *
    generalize valU (b :: s) = B at *
    generalize (toU8 a).toNat = u at *
    generalize (toU8 b).toNat = v at *
    generalize hM : 256 ^ r.length = M at *
    have hs : ∀ p q : Nat, p < q → p * M + M ≤ q * M := fun p q hpq => by
      have : (p + 1) * M ≤ q * M := Nat.mul_le_mul_right _ hpq
      rw [Nat.add_mul, Nat.one_mul] at this
      exact this
    by_cases c1 : u < v
    · have := hs u v c1
      rw [if_pos c1, if_pos (by omega)]
    · rw [if_neg c1]
      by_cases c2 : v < u
      · have := hs v u c2
        rw [if_pos c2, if_neg (by omega), if_pos (by omega)]
      · rw [if_neg c2, ih]
        have : u = v := by omega
        subst this
        simp only [show (A < B) = (valU r < valU s) from propext (by omega), show (B < A) = (valU s < valU r) from propext (by omega)]
structure MadeS where
  o : OutS
  id : Int
  what : Int
def MadeS.c (m : MadeS) : List AV := [.int .i64 m.o.kind, .int .i64 m.o.amount, .arr .u8 32 m.o.owner, .arr .u8 32 m.o.other, .arr .u8 32 m.o.point, .arr .u8 32 m.o.hash, .int .i64 m.o.delay, .int .i64 m.o.expiry, .int .i64 m.id, .int .i64 m.what]
structure MadeS.Ok (m : MadeS) : Prop where
  owner : m.o.owner.length = 32
  other : m.o.other.length = 32
  point : m.o.point.length = 32
  hash : m.o.hash.length = 32
def made0 : MadeS := ⟨⟨0, 0, [], [], [], [], 0, 0⟩, 0, 0⟩
def cmpZ (a b : Int) : Int := if a < b then -1 else if b < a then 1 else 0
def cmpM (a b : MadeS) : Int :=
  if cmpZ a.o.amount b.o.amount ≠ 0 then cmpZ a.o.amount b.o.amount else
  if cmpZ a.o.kind b.o.kind ≠ 0 then cmpZ a.o.kind b.o.kind else
  if cmpZ a.o.expiry b.o.expiry ≠ 0 then cmpZ a.o.expiry b.o.expiry else
  if cmpI a.o.hash b.o.hash ≠ 0 then cmpI a.o.hash b.o.hash else cmpZ a.id b.id
def ltM (a b : MadeS) : Bool := decide (a.o.amount < b.o.amount ∨ (a.o.amount = b.o.amount ∧ (a.o.kind < b.o.kind ∨ (a.o.kind = b.o.kind ∧ (a.o.expiry < b.o.expiry ∨ (a.o.expiry = b.o.expiry ∧ (valU a.o.hash < valU b.o.hash ∨ (valU a.o.hash = valU b.o.hash ∧ a.id < b.id))))))))
theorem cmpZ_spec (a b : Int) : (a < b ∧ cmpZ a b = -1) ∨ (b < a ∧ cmpZ a b = 1) ∨ (a = b ∧ cmpZ a b = 0) := by unfold cmpZ; omega
theorem cmpI_spec {x y : List Int} (h : x.length = y.length) : (valU x < valU y ∧ cmpI x y = -1) ∨ (valU y < valU x ∧ cmpI x y = 1) ∨ (valU x = valU y ∧ cmpI x y = 0) := by
  rw [cmpI_val x y h]; omega
theorem cmpM_lt {a b : MadeS} (ha : a.Ok) (hb : b.Ok) : decide (cmpM a b < 0) = ltM a b := by
  unfold cmpM ltM
  have h1 := cmpZ_spec a.o.amount b.o.amount
  have h2 := cmpZ_spec a.o.kind b.o.kind
  have h3 := cmpZ_spec a.o.expiry b.o.expiry
  have h4 := cmpI_spec (ha.hash.trans hb.hash.symm)
  have h5 := cmpZ_spec a.id b.id
  rw [decide_eq_decide]
  generalize cmpZ a.o.amount b.o.amount = c1 at *
  generalize cmpZ a.o.kind b.o.kind = c2 at *
  generalize cmpZ a.o.expiry b.o.expiry = c3 at *
  generalize cmpI a.o.hash b.o.hash = c4 at *
  generalize cmpZ a.id b.id = c5 at *
  generalize valU a.o.hash = v1 at *
  generalize valU b.o.hash = v2 at *
  omega
theorem ltM_wo : WO ltM where
  asym x y h := by
    unfold ltM at *
    simp only [decide_eq_true_eq, decide_eq_false_iff_not] at *
    generalize valU x.o.hash = v1 at *
    generalize valU y.o.hash = v2 at *
    omega
  neg x y z h h2 := by
    unfold ltM at *
    simp only [decide_eq_true_eq, decide_eq_false_iff_not] at *
    generalize valU x.o.hash = v1 at *
    generalize valU y.o.hash = v2 at *
    generalize valU z.o.hash = v3 at *
    omega
def sortM (l : List MadeS) : List MadeS := sortL ltM [] l
def mRows (l : List MadeS) (i : Nat) : List AV := (l.getD i made0).c
end Go.Tk
end
section
namespace Go.Tk
def byL : List AV := [.func (.func 156) [] [], .func (.func 158) [] [], .func (.func 160) [] [], .func (.func 161) [] [], .func (.func 163) [] []]
theorem cz_go {a b r c : Int} {P X Y : Prop} (hr : r = if cmpZ a b ≠ 0 then cmpZ a b else c) (hP : r = c → P) :
    iteB (a != a) X (iteB (b != b) Y (iteB (decide (a < b)) (iteB (decide (-1 = r)) True False) (iteB (decide (a > b)) (iteB (decide (1 = r)) True False) P))) := by
  rw [bne_self_eq_false, bne_self_eq_false]
  show iteB (decide (a < b)) _ (iteB (decide (a > b)) _ P)
  rcases cmpZ_spec a b with ⟨h1, h2⟩ | ⟨h1, h2⟩ | ⟨h1, h2⟩
  · rw [decide_eq_true h1, hr, h2]; trivial
  · rw [decide_eq_false (by omega : ¬ a < b), decide_eq_true (show a > b from h1), hr, h2]; trivial
  · rw [decide_eq_false (by omega : ¬ a < b), decide_eq_false (show ¬ a > b by omega)]
    exact hP (by rw [hr, h2]; rfl)
set_option maxRecDepth 100000 in
set_option maxHeartbeats 0 in
theorem cmp_1 (a b : MadeS) (r : Int) (ha : a.Ok) (hb : b.Ok) (hr : r = cmpM a b) :
    evF G0 20 210 [.agg a.c, .agg b.c, .pview [.vrows 1 5 (rowC byL 0 1) 5] 0] ⟨0, []⟩ (outM 0 (.ret (.int .i64 r)) 0 []) := by
  refine @Eq.mpr _ (let q1 := a.o;
 let q2 := q1.amount;
 let q3 := b.o;
 let q4 := q3.amount;
 let q5 := q4 != q4;
 let q6 := q1.kind;
 let q7 := q3.kind;
 let q8 := q7 != q7;
 let q9 := q1.expiry;
 let q10 := q3.expiry;
 let q11 := q10 != q10;
 let q12 := q1.hash;
 let q13 := q3.hash;
 let q14 := cmpI q12 q13;
 let q15 := a.id;
 let q16 := b.id;
 let q17 := q16 != q16;
 let q18 := iteB (decide (0 = r)) True False;
 let q19 := iteB (decide (-1 = r)) True False;
 let q20 := iteB (decide (1 = r)) True False;
 let q21 := iteB (decide (IntKind.u8 = IntKind.u8 ∧ List.length q12 = 32)) (iteB (decide (IntKind.u8 = IntKind.u8 ∧ List.length q13 = 32)) (iteB (q14 != 0) (iteB (decide (q14 = r)) True False) (iteB (q15 != q15) (iteB q17 q18 q19) (iteB q17 q20 (iteB (decide (q15 < q16)) q19 (iteB (decide (q15 > q16)) q20 q18))))) False) False;
 let q22 := iteB (q9 != q9) (iteB q11 q21 q19) (iteB q11 q20 (iteB (decide (q9 < q10)) q19 (iteB (decide (q9 > q10)) q20 q21)));
 let q23 := iteB (q6 != q6) (iteB q8 q22 q19) (iteB q8 q20 (iteB (decide (q6 < q7)) q19 (iteB (decide (q6 > q7)) q20 q22)));
 iteB (q2 != q2) (iteB q5 q23 q19) (iteB q5 q20 (iteB (decide (q2 < q4)) q19 (iteB (decide (q2 > q4)) q20 q23)))) (by kernel_rfl) ?_
  conv => zeta
  unfold cmpM at hr
  refine cz_go hr fun hr => cz_go hr fun hr => cz_go hr fun hr => ?_
  rw [decide_eq_true (show IntKind.u8 = IntKind.u8 ∧ a.o.hash.length = 32 from ⟨rfl, ha.hash⟩), decide_eq_true (show IntKind.u8 = IntKind.u8 ∧ b.o.hash.length = 32 from ⟨rfl, hb.hash⟩)]
  show iteB (cmpI a.o.hash b.o.hash != 0) _ _
  by_cases h : cmpI a.o.hash b.o.hash = 0
  · rw [h]
    rw [if_neg (by simp [h])] at hr
    refine cz_go (c := 0) ?_ fun hr => by rw [hr]; trivial
    rw [hr]; split <;> simp_all
  · rw [if_pos h] at hr
    rw [bne_iff_ne.2 h, hr, decide_eq_true rfl]; trivial
def cmpS : PSumm := fun args h K => viewL none h true 20 args fun a => match a with
  | [.agg ca, .agg cb, .pview [.vrows 1 5 f 5] 0] => ∃ a b, ca = MadeS.c a ∧ cb = MadeS.c b ∧ f = rowC byL 0 1 ∧ (a.Ok ∧ b.Ok) ∧ K (.int .i64 (cmpM a b))
  | _ => False
theorem cmpS_ok (args : List AV) (h : Heap) (K : AV → Prop) (hl : cmpS args h K) : CallsA PP 210 args h fun o h' => ∃ v, o = .ret v ∧ h' = h ∧ K v := by
  refine Pure.psumm (d := 20) (viewL_weak _ _ _ _ _ hl fun a ha => ?_)
  split at ha
  · obtain ⟨a, b, rfl, rfl, rfl, ⟨h1, h2⟩, hK⟩ := ha
    exact ⟨_, .evM G0_ok (cmp_1 a b _ h1 h2 rfl), fun _ => rfl, hK⟩
  · exact ha.elim
end Go.Tk
end
section
namespace Go.Tk
theorem and_mk {a b : Bool} (h1 : a = true) (h2 : b = true) : (a && b) = true := by rw [h1, h2]; rfl
theorem emb_rows {E : Env} {w : World} {sz n : Nat} {g g' : Nat → List AV} (hg : ∀ i, i < n → g' i = g i) (he : Emb E ⟨1, [(0, .rows sz n g')]⟩ w) : Emb E ⟨1, [(0, .rows sz n g)]⟩ w := by
  have hget : ∀ (f : Nat → List AV) x B, (Heap.mk 1 [(0, .rows sz n f)]).get x = some B → x = 0 ∧ B = .rows sz n f := fun f x B hx => by
    simp only [Heap.get, getB] at hx
    split at hx
    · rename_i hb
      cases hx
      exact ⟨(Nat.eq_of_beq_eq_true hb).symm, rfl⟩
    · cases hx
  have h0 : ∀ f : Nat → List AV, (Heap.mk 1 [(0, .rows sz n f)]).get 0 = some (.rows sz n f) := fun f => rfl
  refine ⟨he.fresh, fun x B hx => ?_, fun x B hx => ?_, fun x y B B' b N N' hx hy h1 h2 => ?_, he.imm, fun a c x B N hi hx hb => ?_⟩
  · obtain ⟨rfl, rfl⟩ := hget _ _ _ hx; exact he.lt 0 _ (h0 _)
  · obtain ⟨rfl, rfl⟩ := hget _ _ _ hx
    have := he.own 0 _ (h0 g')
    cases this with
    | rows0 _ _ _ hn hb => exact .rows0 _ _ _ hn hb
    | rows _ _ _ b cells elem fr gv hb hw hf hc hl hv => exact .rows _ _ _ b cells elem fr gv hb hw hf (fun i hi => hg i hi ▸ hc i hi) hl hv
  · obtain ⟨rfl, rfl⟩ := hget _ _ _ hx
    obtain ⟨rfl, rfl⟩ := hget _ _ _ hy
    rfl
  · obtain ⟨rfl, rfl⟩ := hget _ _ _ hx
    exact he.sep a c 0 _ N hi (h0 g') hb
theorem Spec.rows {P : Program} {f : FuncId} {args : List AV} {sz n : Nat} {g g' : Nat → List AV} {o : Out} {nx : Nat} {bs : List (Nat × Blk)} (hg : ∀ i, i < n → g' i = g i) (h : Spec P f args ⟨1, [(0, .rows sz n g)]⟩ o nx bs) : Spec P f args ⟨1, [(0, .rows sz n g')]⟩ o nx bs := by
  intro E w rs he hl
  have he' := emb_rows hg he
  refine (h E w rs he' hl).mono ?_
  rintro e w' ⟨E', hev, ho⟩
  have own : ∀ b, Owned E ⟨1, [(0, .rows sz n g)]⟩ b ↔ Owned E ⟨1, [(0, .rows sz n g')]⟩ b := fun b => by
    unfold Owned
    constructor
    · rintro ⟨x, B, N, hx, hb⟩
      simp only [Heap.get, getB] at hx
      split at hx
      · rename_i hq; have := Nat.eq_of_beq_eq_true hq; subst this; exact ⟨0, _, N, rfl, hb⟩
      · cases hx
    · rintro ⟨x, B, N, hx, hb⟩
      simp only [Heap.get, getB] at hx
      split at hx
      · rename_i hq; have := Nat.eq_of_beq_eq_true hq; subst this; exact ⟨0, _, N, rfl, hb⟩
      · cases hx
  exact ⟨E', ⟨hev.le, hev.emb, hev.size, hev.os, hev.tape, hev.output, fun b hb hn => hev.keep b hb (fun h => hn ((own b).1 h)), fun b hb => (hev.own b hb).imp (own b).1 id, hev.imm⟩, ho⟩
theorem frA_one {blk sz n len lo d : Nat} {f : Nat → List AV} {h : Heap} {K0 : List Blk → List AV → Prop} (hg : h.get blk = some (.rows sz n f)) (hp : ∀ i, i < n → plainC (f i) = true)
    (hK : K0 [.rows sz n f] [.nslice ⟨0, 0, sz, 0, 0⟩ sz len lo]) : frA [blk] h (d + 3) [.nslice ⟨blk, 0, sz, 0, 0⟩ sz len lo] K0 := by
  unfold frA
  have h1 : (hasB h [blk] && distN [blk]) = true := by simp [hasB, hg, distN, idxN]
  rw [h1]
  simp only [vwBs, hg, vwB]
  refine ⟨hp, ?_⟩
  simp only [vwL, vwV, idxN, Nat.beq_refl]
  exact hK
end Go.Tk
end
section
namespace Go.Tk
noncomputable def E82 : Env2 := G0.withP 210 cmpS
theorem E82_ok : E82.Ok := Env2.withP_ok G0_ok cmpS_ok
def cmpF : AV := .func (.func 210) [] [.pview [.vrows 1 5 (rowC byL 0 1) 5] 0]
def isH (n : Nat) (L : List MadeS) : Heap := ⟨1, [(0, .rows 134 n (mRows L))]⟩
def isT (n lo : Nat) (A B : Int) (l : Tmps) : Tmps := l ++ [(2, .int .i64 B), (1, .int .i64 A), (3, cmpF), (0, .nslice ⟨0, 0, 134, 0, 0⟩ 134 n lo)]
def isS0 (n lo : Nat) (A B I : Int) (L : List MadeS) : St := ⟨53, isT n lo A B [(8, .int .i64 I)], isH n L, []⟩
def isS2 (n lo : Nat) (A B I J : Int) (L : List MadeS) : St := ⟨53, isT n lo A B [(9, .int .i64 J), (8, .int .i64 I)], isH n L, []⟩
theorem mRows_plain (L : List MadeS) (i : Nat) : plainC (mRows L i) = true := rfl
theorem mRows_eq {k : Nat} {τ : Ren} {n : Nat} {L : List MadeS} {f : Nat → List AV} (h : ∀ i, i < n → f i = mRows L i) : RowsEq k τ n (mRows L) f :=
  rowsEq_of h (fun i _ => mRows_plain L i) (fun i _ v hv => by
    simp only [mRows, MadeS.c, List.mem_cons, List.not_mem_nil, or_false] at hv
    rcases hv with rfl | rfl | rfl | rfl | rfl | rfl | rfl | rfl | rfl | rfl <;> first | exact .inl rfl | exact .inr ⟨_, _, _, rfl⟩)
theorem made_at {L : List MadeS} (h : ∀ m ∈ L, m.Ok) {i : Nat} (hi : i < L.length) : (L.getD i made0).Ok := by
  rw [List.getD_eq_getElem?_getD, List.getElem?_eq_getElem hi]
  exact h _ (List.getElem_mem hi)
theorem swap_upd {f : Nat → List AV} {J J1 i : Nat} {x y : List AV} (hx : x = f J) (hy : y = f J1) : updF (updF f J y) J1 x i = if i = J1 then f J else if i = J then f J1 else f i := by
  rw [updF_eq, updF_eq]
  by_cases h1 : i = J1
  · subst h1; rw [Nat.beq_refl, if_pos rfl, hx]
  · rw [beq_false_of_ne h1, if_neg h1]
    by_cases h2 : i = J
    · subst h2; rw [Nat.beq_refl, if_pos rfl, hy]
    · rw [beq_false_of_ne h2, if_neg h2]
set_option maxRecDepth 100000 in
set_option maxHeartbeats 0 in
theorem is_2 (n lo A B I J : Nat) (L L1 : List MadeS) (Z1 Z2 : Prop) (hn : n < 900000000000) (hJ : J < n) (hL : L.length = n) (hok : ∀ m ∈ L, m.Ok) (hsw : A < J → ∀ i, i < n → mRows L1 i = if i = J - 1 then mRows L J else if i = J then mRows L (J - 1) else mRows L i) (h1 : A < J → ltM (L.getD J made0) (L.getD (J - 1) made0) = true → Z1) (h2 : J ≤ A ∨ ltM (L.getD J made0) (L.getD (J - 1) made0) = false → Z2) :
    roundE E82 20 279 2 1 (isS2 n lo A B I J L) (rdM 1 2 9 (isS2 n lo A B I ((J - 1 : Nat) : Int) L1) (isS0 n lo A B I L) (isS0 n lo A B I L) (isS0 n lo A B I L) Z1 Z2 False False) := by
  refine @Eq.mpr _ (let q1 := decide (0 ≤ (↑J : Int) ∧ (↑J : Int) < (↑n : Int));
 let q2 := 0 + Int.toNat (↑J : Int);
 let q3 := IntKind.wrap IntKind.i64 ((↑J : Int) - 1);
 let q4 := decide (0 ≤ q3 ∧ q3 < (↑n : Int));
 let q5 := 0 + Int.toNat q3;
 let q6 := List.getD L q2 made0;
 let q7 := q6.o;
 let q8 := [AV.int IntKind.i64 q7.kind, AV.int IntKind.i64 q7.amount, AV.arr IntKind.u8 32 q7.owner, AV.arr IntKind.u8 32 q7.other, AV.arr IntKind.u8 32 q7.point, AV.arr IntKind.u8 32 q7.hash, AV.int IntKind.i64 q7.delay, AV.int IntKind.i64 q7.expiry, AV.int IntKind.i64 q6.id, AV.int IntKind.i64 q6.what];
 let q9 := List.getD L q5 made0;
 let q10 := q9.o;
 let q11 := [AV.int IntKind.i64 q10.kind, AV.int IntKind.i64 q10.amount, AV.arr IntKind.u8 32 q10.owner, AV.arr IntKind.u8 32 q10.other, AV.arr IntKind.u8 32 q10.point, AV.arr IntKind.u8 32 q10.hash, AV.int IntKind.i64 q10.delay, AV.int IntKind.i64 q10.expiry, AV.int IntKind.i64 q9.id, AV.int IntKind.i64 q9.what];
 let q12 := rowC byL 0 1;
 let q13 := decide ((↑I : Int) = (↑I : Int));
 let q14 := decide ((↑B : Int) = (↑B : Int));
 let q15 := decide ((↑A : Int) = (↑A : Int));
 let q16 := [AV.vrows 1 5 q12 5];
 let q17 := q16 = q16;
 let q18 := decide (n = n);
 let q19 := decide (lo ≤ lo);
 let q20 := mRows L;
 let q21 := iteB q13 (iteB q14 (iteB q15 (q17 ∧ iteB q18 (iteB q19 (iteB q18 (RowsEq 1 [] n q20 q20 ∧ Z2) False) False) False) False) False) False;
 iteB (decide ((↑J : Int) > (↑A : Int))) (iteB q1 (iteB (decide (q2 < n)) (iteB q4 (iteB (decide (q5 < n)) (∃ (a : MadeS), ∃ (b : MadeS), q8 = MadeS.c a ∧ q11 = MadeS.c b ∧ q12 = q12 ∧ (MadeS.Ok a ∧ MadeS.Ok b) ∧ iteB (decide (cmpM a b < 0)) (iteB q4 (iteB (decide (q5 < n)) (iteB q1 (iteB (decide (q2 < n)) (iteB q1 (iteB (decide (q2 < n)) (iteB q4 (iteB (decide (q5 < n)) (iteB (decide (q3 = (↑(J - 1) : Int))) (iteB q13 (iteB q14 (iteB q15 (q17 ∧ iteB q18 (iteB q19 (iteB q18 (RowsEq 1 [] n (mRows L1) (updF (updF q20 q2 q11) q5 q8) ∧ Z1) False) False) False) False) False) False) False) False) False) False) False) False) False) False) False) q21) False) False) False) False) q21) (by kernel_rfl) ?_
  conv => zeta
  try simp only [need_eq]
  try simp only [nope_eq]
  try simp only [iteD_eq]
  try simp only [iteT_eq]
  try simp only [iteF_eq]
  try simp only [iteE_eq]
  try simp only [Int.toNat_natCast, Nat.zero_add, true_and, and_true, Nat.le_refl]
  refine ⟨fun hc => ?_, fun hc => ⟨mRows_eq fun _ _ => rfl, h2 (.inl (by omega))⟩⟩
  have key : IntKind.i64.wrap ((J : Int) - 1) = ((J - 1 : Nat) : Int) := by rw [w64 (by omega)]; omega
  rw [key]
  simp only [Int.toNat_natCast]
  have o1 : (L.getD J made0).Ok := made_at hok (by omega)
  have o2 : (L.getD (J - 1) made0).Ok := made_at hok (by omega)
  have hlt := cmpM_lt o1 o2
  refine ⟨by omega, by omega, by omega, by omega, L.getD J made0, L.getD (J - 1) made0, rfl, rfl, ⟨o1, o2⟩, fun hm => ?_, fun hm => ⟨mRows_eq fun _ _ => rfl, h2 (.inr (by rw [← hlt]; simpa using hm))⟩⟩
  refine ⟨by omega, by omega, by omega, by omega, by omega, by omega, by omega, by omega, trivial, mRows_eq fun i hi => ?_, h1 (by omega) (by rw [← hlt]; simpa using hm)⟩
  rw [hsw (by omega) i hi]
  exact swap_upd rfl rfl
def isL (a p : List MadeS) (x : MadeS) (r : List MadeS) (m : Nat) : List MadeS := a ++ (p.take (p.length - m) ++ x :: (p.drop (p.length - m) ++ r))
theorem isL_len {a p r : List MadeS} {x : MadeS} {m : Nat} : (isL a p x r m).length = a.length + p.length + 1 + r.length := by
  unfold isL
  simp only [List.length_append, List.length_cons, List.length_take, List.length_drop]
  omega
theorem isL_mem {a p r : List MadeS} {x : MadeS} {m : Nat} {z : MadeS} : z ∈ isL a p x r m ↔ z ∈ a ∨ z ∈ p ∨ z = x ∨ z ∈ r := by
  unfold isL
  have e : z ∈ p ↔ z ∈ p.take (p.length - m) ∨ z ∈ p.drop (p.length - m) := by
    rw [← List.mem_append, List.take_append_drop]
  rw [e]
  simp only [List.mem_append, List.mem_cons]
  constructor
  · rintro (h | h | h | h | h) <;> simp [h]
  · rintro (h | (h | h) | h | h) <;> simp [h]
theorem isL_x {a p r : List MadeS} {x : MadeS} {m : Nat} (hm : m ≤ p.length) : (isL a p x r m).getD (a.length + p.length - m) made0 = x := by
  unfold isL
  rw [List.getD_eq_getElem?_getD, List.getElem?_append_right (by omega), List.getElem?_append_right (by rw [List.length_take]; omega)]
  have : a.length + p.length - m - a.length - (p.take (p.length - m)).length = 0 := by rw [List.length_take]; omega
  rw [this]; rfl
theorem isL_p {a p r : List MadeS} {x : MadeS} {m : Nat} (hm : m < p.length) : (isL a p x r m).getD (a.length + p.length - m - 1) made0 = p.getD (p.length - m - 1) made0 := by
  unfold isL
  rw [List.getD_eq_getElem?_getD, List.getElem?_append_right (by omega), List.getElem?_append_left (by rw [List.length_take]; omega), List.getElem?_take, if_pos (by omega), ← List.getD_eq_getElem?_getD]
  congr 1
  omega
theorem isL_swap {a p r : List MadeS} {x : MadeS} {m : Nat} (hm : m < p.length) (i : Nat) : mRows (isL a p x r (m + 1)) i = if i = a.length + p.length - m - 1 then mRows (isL a p x r m) (a.length + p.length - m) else if i = a.length + p.length - m then mRows (isL a p x r m) (a.length + p.length - m - 1) else mRows (isL a p x r m) i := by
  unfold mRows
  rw [isL_x (by omega), isL_p hm]
  have hx := isL_x (a := a) (p := p) (r := r) (x := x) (m := m + 1) (by omega)
  by_cases h1 : i = a.length + p.length - m - 1
  · rw [if_pos h1, h1, show a.length + p.length - m - 1 = a.length + p.length - (m + 1) by omega, hx]
  · rw [if_neg h1]
    have e : p.length - m = (p.length - (m + 1)) + 1 := by omega
    have hd : p.drop (p.length - (m + 1)) = p.getD (p.length - m - 1) made0 :: p.drop (p.length - m) := by
      rw [List.drop_eq_getElem_cons (by omega), show p.length - (m + 1) + 1 = p.length - m by omega]
      congr 1
      rw [List.getD_eq_getElem?_getD, List.getElem?_eq_getElem (by omega)]
      simp only [Option.getD_some]
      congr 1
    have ht : p.take (p.length - m) = p.take (p.length - (m + 1)) ++ [p.getD (p.length - m - 1) made0] := by
      rw [e, List.take_succ_eq_append_getElem (by omega)]
      congr 2
      rw [List.getD_eq_getElem?_getD, List.getElem?_eq_getElem (by omega)]
      simp only [Option.getD_some]
      congr 1
    have l1 : (p.take (p.length - (m + 1))).length = p.length - (m + 1) := by rw [List.length_take]; omega
    generalize p.getD (p.length - m - 1) made0 = y at *
    have hm1 : isL a p x r (m + 1) = (a ++ p.take (p.length - (m + 1))) ++ (x :: y :: (p.drop (p.length - m) ++ r)) := by
      unfold isL; rw [hd]; simp
    have hm0 : isL a p x r m = (a ++ p.take (p.length - (m + 1))) ++ (y :: x :: (p.drop (p.length - m) ++ r)) := by
      unfold isL; rw [ht]; simp
    rw [hm1, hm0]
    have l2 : (a ++ p.take (p.length - (m + 1))).length = a.length + p.length - m - 1 := by rw [List.length_append, l1]; omega
    generalize a ++ p.take (p.length - (m + 1)) = U at *
    generalize p.drop (p.length - m) ++ r = V at *
    by_cases h2 : i = a.length + p.length - m
    · rw [if_pos h2, List.getD_eq_getElem?_getD, List.getElem?_append_right (by omega), show i - U.length = 1 by omega]
      rfl
    · rw [if_neg h2]
      rcases Nat.lt_or_ge i U.length with h3 | h3
      · rw [List.getD_eq_getElem?_getD, List.getD_eq_getElem?_getD, List.getElem?_append_left h3, List.getElem?_append_left h3]
      · rw [List.getD_eq_getElem?_getD, List.getD_eq_getElem?_getD, List.getElem?_append_right h3, List.getElem?_append_right h3]
        obtain ⟨q, hq⟩ : ∃ q, i - U.length = q + 2 := ⟨i - U.length - 2, by omega⟩
        rw [hq]; rfl
def isGo (p : List MadeS) (x : MadeS) (m : Nat) : Prop := m < p.length ∧ ltM x (p.getD (p.length - m - 1) made0) = true
def isEx (p : List MadeS) (x : MadeS) (m : Nat) : Prop := m = p.length ∨ (m < p.length ∧ ltM x (p.getD (p.length - m - 1) made0) = false)
theorem isL_end {a p r : List MadeS} {x : MadeS} {m : Nat} (ho : OrdL ltM p) (hm : m ≤ p.length) (hgo : ∀ j, j < m → isGo p x j) (hex : isEx p x m) : isL a p x r m = a ++ (insL ltM x p ++ r) := by
  have h := insL_at ltM_wo (x := x) (l := p) (j := p.length - m) ho (by omega) (fun y hy => ?_) (fun y hy hj => ?_)
  · unfold isL
    rw [← h]; simp
  · obtain ⟨q, hq⟩ := List.mem_iff_getElem?.1 hy
    rw [List.getElem?_drop] at hq
    obtain ⟨hlt, he⟩ := List.getElem?_eq_some_iff.1 hq
    have := (hgo (p.length - 1 - (p.length - m + q)) (by omega)).2
    rw [List.getD_eq_getElem?_getD, show p.length - (p.length - 1 - (p.length - m + q)) - 1 = p.length - m + q by omega, hq] at this
    exact this
  · rcases hex with hex | ⟨_, hex⟩
    · omega
    · rw [List.getD_eq_getElem?_getD, hy] at hex
      exact hex
structure IsQ where
  a : List MadeS
  p : List MadeS
  x : MadeS
  r : List MadeS
def IsQ.n (q : IsQ) : Nat := q.a.length + q.p.length + 1 + q.r.length
def IsQ.I (q : IsQ) : Nat := q.a.length + q.p.length
def IsQ.L (q : IsQ) (m : Nat) : List MadeS := isL q.a q.p q.x q.r m
structure IsQ.Ok (q : IsQ) (n : Nat) (A : Nat) : Prop where
  hn : q.n = n
  hA : q.a.length = A
  le : n < 900000000000
  ok : ∀ m ∈ q.L 0, m.Ok
def IsQ.go (q : IsQ) : Nat → Prop := isGo q.p q.x
def IsQ.ex (q : IsQ) : Nat → Prop := isEx q.p q.x
def IsQ.len (q : IsQ) : Nat := q.p.length
noncomputable def E82b (n lo A B : Nat) : Env2 := E82.withL 279 2 (exLo fun q : IsQ => goM 1 (isS2 n lo A B q.I q.I (q.L 0)) (q.Ok n A) (endsJ 2 q.len 9 q.go q.ex (fun _ => False) (fun _ => False) (fun m => isS0 n lo A B q.I (q.L m)) (fun m => isS0 n lo A B q.I (q.L m)) (fun m => isS0 n lo A B q.I (q.L m))))
theorem E82b_ok (n lo A B : Nat) : (E82b n lo A B).Ok :=
  Env2.withL_ex E82_ok fun q => Env2.withGoM (N := 20) (S := fun m => isS2 n lo A B q.I ((q.I - m : Nat) : Int) (q.L m)) E82_ok (by kernel_rfl) fun hC => ⟨by simp, fun m hm hgo => by
    obtain ⟨h1, h2, h3, h4⟩ := hC
    have l1 : (q.L m).length = n := by rw [← h1]; exact isL_len
    have hI : q.I = q.a.length + q.p.length := rfl
    have hm' : m ≤ q.p.length := hm
    have hnn : q.n = q.a.length + q.p.length + 1 + q.r.length := rfl
    have hx : (q.L m).getD (q.I - m) made0 = q.x := isL_x hm'
    have hok : ∀ z ∈ q.L m, z.Ok := fun z hz => h4 z (isL_mem.2 (isL_mem.1 hz))
    have := is_2 n lo A B q.I (q.I - m) (q.L m) (q.L (m + 1)) (q.go m ∧ m < q.len) (q.ex m) h3 (by omega) l1 hok (fun hlt i hi => ?_) (fun hlt hc => ?_) (fun hc => ?_)
    · rw [show q.I - (m + 1) = q.I - m - 1 by omega]
      exact this
    · have hmp : m < q.p.length := by omega
      exact isL_swap hmp i
    · have hmp : m < q.p.length := by omega
      rw [hx, show (q.L m).getD (q.I - m - 1) made0 = _ from isL_p hmp] at hc
      exact ⟨⟨hmp, hc⟩, hmp⟩
    · rcases Nat.lt_or_ge m q.p.length with hmp | hmp
      · rcases hc with hc | hc
        · omega
        · rw [hx, show (q.L m).getD (q.I - m - 1) made0 = _ from isL_p hmp] at hc
          exact .inr ⟨hmp, hc⟩
      · exact .inl (show m = q.p.length by omega)⟩
set_option maxRecDepth 100000 in
set_option maxHeartbeats 0 in
theorem is_0 (n lo A B I : Nat) (L L1 : List MadeS) (q : IsQ) (Z1 Z2 : Prop) (hn : n < 900000000000) (hI : I < 900000000001) (hq : I < B → q.I = I ∧ q.L 0 = L ∧ q.Ok n A) (hnext : I < B → ∀ m, m ≤ q.len → (∀ j, j < m → q.go j) → q.ex m → L1 = q.L m ∧ Z1) (h2 : ¬ I < B → Z2) :
    roundE (E82b n lo A B) 20 279 0 1 (isS0 n lo A B I L) (rdM 1 0 9 (isS0 n lo A B ((I + 1 : Nat) : Int) L1) ⟨53, [], isH n L, []⟩ ⟨53, [], isH n L, []⟩ ⟨53, [], isH n L, []⟩ Z1 Z2 False False) := by
  refine @Eq.mpr _ (let q1 := decide ((↑B : Int) = (↑B : Int));
 let q2 := decide ((↑A : Int) = (↑A : Int));
 let q3 := [AV.vrows 1 5 (rowC byL 0 1) 5];
 let q4 := q3 = q3;
 let q5 := decide (n = n);
 let q6 := decide (lo ≤ lo);
 let q7 := mRows L;
 iteB (decide ((↑I : Int) < (↑B : Int)))
 (∃ (i : IsQ),
 let q15 := (↑(IsQ.I i) : Int);
 let q16 := decide ((↑I : Int) = q15);
 iteB q16
 (iteB q16
 (iteB q1
 (iteB q2
 (q4 ∧
 iteB q5
 (iteB q6
 (iteB q5
 (RowsEq 1 [] n (mRows (IsQ.L i 0)) q7 ∧
 IsQ.Ok i n A ∧
 ∀ (i_1 : Nat),
 let q19 := mRows (IsQ.L i i_1);
 i_1 ≤ IsQ.len i → (∀ (j : Nat), j < i_1 → IsQ.go i j) → (IsQ.ex i i_1 → iteB (decide (IntKind.wrap IntKind.i64 (q15 + 1) = (↑(I + 1) : Int))) (iteB q1 (iteB q2 (q4 ∧ iteB q5 (iteB q6 (iteB q5 (RowsEq 1 [] n (mRows L1) q19 ∧ Z1) False) False) False) False) False) False) ∧ (False → iteB q5 (RowsEq 1 [] n q7 q19 ∧ False) False) ∧ (False → iteB q5 (RowsEq 1 [] n q7 q19 ∧ False) False))
 False)
 False)
 False)
 False)
 False)
 False)
 False)
 (iteB q5 (RowsEq 1 [] n q7 q7 ∧ Z2) False)) (by kernel_rfl) ?_
  conv => zeta
  try simp only [need_eq]
  try simp only [nope_eq]
  try simp only [iteD_eq]
  try simp only [iteT_eq]
  try simp only [iteF_eq]
  try simp only [iteE_eq]
  try simp only [Int.toNat_natCast, Nat.zero_add, true_and, and_true, Nat.le_refl]
  refine ⟨fun hc => ?_, fun hc => ⟨mRows_eq fun _ _ => rfl, h2 (by omega)⟩⟩
  obtain ⟨e1, e2, e3⟩ := hq (by omega)
  refine ⟨q, by omega, by omega, mRows_eq (fun _ _ => by rw [e2]), e3, fun m hm hgo => ⟨fun hex => ?_, fun h => h.elim, fun h => h.elim⟩⟩
  obtain ⟨e4, hZ⟩ := hnext (by omega) m hm hgo hex
  exact ⟨by rw [w64 (by omega)]; omega, mRows_eq (fun _ _ => by rw [e4]), hZ⟩
structure IsP where
  a : List MadeS
  M : List MadeS
  c : List MadeS
def IsP.L (q : IsP) (t : Nat) : List MadeS := q.a ++ (sortL ltM [] (q.M.take (t + 1)) ++ (q.M.drop (t + 1) ++ q.c))
def IsP.N (q : IsP) : Nat := q.M.length - 1
def IsP.all (q : IsP) : List MadeS := q.a ++ (q.M ++ q.c)
def IsP.done (q : IsP) : List MadeS := q.a ++ (sortM q.M ++ q.c)
structure IsP.Ok (q : IsP) (n A B : Nat) : Prop where
  hn : q.a.length + q.M.length + q.c.length = n
  hA : q.a.length = A
  hB : q.a.length + q.M.length = B
  le : n < 900000000000
  ok : ∀ m ∈ q.all, m.Ok
theorem IsP.L0 (q : IsP) : q.L 0 = q.all := by
  unfold IsP.L IsP.all
  cases h : q.M with
  | nil => rfl
  | cons x r => rfl
theorem IsP.LN (q : IsP) : q.L q.N = q.done := by
  unfold IsP.L IsP.done IsP.N
  rw [List.take_of_length_le (by omega), List.drop_of_length_le (by omega)]; rfl
theorem sortL_mem {l acc : List MadeS} {z : MadeS} : z ∈ sortL ltM acc l ↔ z ∈ acc ∨ z ∈ l := by
  rw [(sortL_perm (lt := ltM)).mem_iff, List.mem_append]
noncomputable def E82c (q : IsP) (n lo A B : Nat) : Env2 := (E82b n lo A B).withL 279 0 (goM 1 (isS0 n lo A B ((A + 1 : Nat) : Int) (q.L 0)) (q.Ok n A B) (endsJ 0 q.N 9 (fun t => t < q.N) (fun t => t = q.N) (fun _ => False) (fun _ => False) (fun t => ⟨53, [], isH n (q.L t), []⟩) (fun t => ⟨53, [], isH n (q.L t), []⟩) (fun t => ⟨53, [], isH n (q.L t), []⟩)))
theorem E82c_ok (q : IsP) (n lo A B : Nat) : (E82c q n lo A B).Ok :=
  Env2.withGoM (N := 20) (S := fun t => isS0 n lo A B ((A + 1 + t : Nat) : Int) (q.L t)) (E82b_ok n lo A B) (by kernel_rfl) fun hC => ⟨rfl, fun t ht hgo => by
    obtain ⟨h1, h2, h3, h4, h5⟩ := hC
    have hN : q.N = q.M.length - 1 := rfl
    have hMl : q.M.length ≤ n := by omega
    have := is_0 n lo A B (A + 1 + t) (q.L t) (q.L (t + 1)) ⟨q.a, sortL ltM [] (q.M.take (t + 1)), q.M.getD (t + 1) made0, q.M.drop (t + 2) ++ q.c⟩ (t < q.N ∧ t < q.N) (t = q.N) h4 (by omega) (fun hlt => ?_) (fun hlt m hm hg he => ?_) (fun hc => by omega)
    · rw [show A + 1 + (t + 1) = A + 1 + t + 1 by omega]; exact this
    · have hl : (sortL ltM [] (q.M.take (t + 1))).length = t + 1 := by rw [sortL_len, List.length_take]; simp; omega
      have e0 : q.L t = isL q.a (sortL ltM [] (q.M.take (t + 1))) (q.M.getD (t + 1) made0) (q.M.drop (t + 2) ++ q.c) 0 := by
        unfold isL IsP.L
        rw [Nat.sub_zero, List.take_length, List.drop_length, List.drop_eq_getElem_cons (show t + 1 < q.M.length by omega), List.getD_eq_getElem?_getD, List.getElem?_eq_getElem (show t + 1 < q.M.length by omega)]
        rfl
      refine ⟨?_, e0.symm, ?_, h2, h4, fun z hz => ?_⟩
      · show q.a.length + (sortL ltM [] (q.M.take (t + 1))).length = _
        rw [hl, h2]; omega
      · show q.a.length + (sortL ltM [] (q.M.take (t + 1))).length + 1 + (q.M.drop (t + 2) ++ q.c).length = n
        rw [hl, List.length_append, List.length_drop]; omega
      · have hz : z ∈ isL q.a (sortL ltM [] (q.M.take (t + 1))) (q.M.getD (t + 1) made0) (q.M.drop (t + 2) ++ q.c) 0 := hz
        refine h5 z ?_
        rw [← e0] at hz
        unfold IsP.L at hz
        unfold IsP.all
        rw [List.mem_append, List.mem_append, sortL_mem, List.mem_append] at hz
        rw [List.mem_append, List.mem_append]
        rcases hz with hz | (hz | hz) | hz | hz
        · exact .inl hz
        · simp at hz
        · exact .inr (.inl (List.mem_of_mem_take hz))
        · exact .inr (.inl (List.mem_of_mem_drop hz))
        · exact .inr (.inr hz)
    · refine ⟨?_, by omega⟩
      have := isL_end (a := q.a) (r := q.M.drop (t + 2) ++ q.c) (x := q.M.getD (t + 1) made0) (m := m) (sortL_ord ltM_wo (l := q.M.take (t + 1)) (acc := []) .nil) hm hg he
      show _ = isL q.a _ _ _ m
      rw [this]
      unfold IsP.L
      have e2 : q.M.take (t + 1 + 1) = q.M.take (t + 1) ++ [q.M.getD (t + 1) made0] := by
        rw [List.take_succ_eq_append_getElem (by omega), List.getD_eq_getElem?_getD, List.getElem?_eq_getElem (show t + 1 < q.M.length by omega)]
        rfl
      rw [e2, sortL_snoc]⟩
set_option maxRecDepth 100000 in
set_option maxHeartbeats 0 in
theorem is_f (q : IsP) (n lo A B : Nat) (L0 L1 : List MadeS) (hq : q.Ok n A B) (hL : L0 = q.all) (hL1 : L1 = q.done) :
    evF (E82c q n lo A B) 20 279 [.nslice ⟨0, 0, 134, 0, 0⟩ 134 n lo, .int .i64 A, .int .i64 B, cmpF] (isH n L0) (outM 1 (.ret (.tuple [])) 1 [(0, .rows 134 n (mRows L1))]) := by
  refine @Eq.mpr _ (let q1 := [AV.vrows 1 5 (rowC byL 0 1) 5];
 let q2 := decide (n = n);
 let q3 := IsP.N q;
 iteB (decide (IntKind.wrap IntKind.i64 ((↑A : Int) + 1) = (↑(A + 1) : Int)))
 (iteB (decide ((↑B : Int) = (↑B : Int)))
 (iteB (decide ((↑A : Int) = (↑A : Int)))
 (q1 = q1 ∧
 iteB q2
 (iteB (decide (lo ≤ lo))
 (iteB q2
 (RowsEq 1 [] n (mRows (IsP.L q 0)) (mRows L0) ∧
 IsP.Ok q n A B ∧
 ∀ (i : Nat),
 let q7 := iteB q2 (RowsEq 1 [] n (mRows L1) (mRows (IsP.L q i)) ∧ True) False;
 i ≤ q3 → (∀ (j : Nat), j < i → (fun (t : Nat) => t < q3) j) → (i = q3 → q7) ∧ (False → q7) ∧ (False → False))
 False)
 False)
 False)
 False)
 False)
 False) (by kernel_rfl) ?_
  conv => zeta
  try simp only [need_eq]
  try simp only [nope_eq]
  try simp only [iteD_eq]
  try simp only [iteT_eq]
  try simp only [iteF_eq]
  try simp only [iteE_eq]
  try simp only [Int.toNat_natCast, Nat.zero_add, true_and, and_true, Nat.le_refl]
  refine ⟨by rw [w64 (by have := hq.hn; have := hq.hA; have := hq.le; omega)]; omega, mRows_eq (fun _ _ => by rw [hL, q.L0]), hq, fun i hi hg => ⟨fun he => ?_, fun h => h.elim, fun h => h.elim⟩⟩
  subst he
  exact mRows_eq fun _ _ => by rw [hL1, q.LN]
def isF : FSumm := fun args h K => match args with
  | .nslice p esz len lo :: r => frA [p.blk] h 20 (.nslice p esz len lo :: r) fun Bs a => match Bs, a with
    | [.rows 134 m f], [.nslice ⟨0, 0, 134, 0, 0⟩ 134 n lo, .int .i64 A, .int .i64 B, .func (.func 210) [] [.pview [.vrows 1 5 g 5] 0]] => ∃ (q : IsP) (a b : Nat), (m = n ∧ A = (a : Int) ∧ B = (b : Int)) ∧ q.Ok n a b ∧ g = rowC byL 0 1 ∧ f = mRows q.all ∧ K (.ret (.tuple [])) ⟨h.next, (p.blk, .rows 134 n (mRows q.done)) :: delB h.bs p.blk⟩
    | _, _ => False
  | _ => False
theorem isF_ok (args : List AV) (h : Heap) (K : KO) (hl : isF args h K) : CallsA PP 279 args h K := by
  unfold isF at hl
  split at hl
  · rename_i p esz len lo r
    refine Spec.fsumm (σ := [p.blk]) (d := 20) hl fun Bs a₀ hlen h0 => ?_
    split at h0
    · obtain ⟨q, a, b, ⟨rfl, rfl, rfl⟩, hq, rfl, rfl, hK⟩ := h0
      exact ⟨_, _, _, _, _, .evM (E82c_ok _ _ _ _ _) (is_f q _ _ a b _ _ hq rfl rfl), Nat.le_refl 1, .ret _ _ rfl, .cons 0 _ _ _ _ _ rfl (.rows _ _ _ fun i _ => mRows_plain _ i) .nil, hK⟩
    · exact h0.elim
  · exact hl.elim
def noF : FSumm := fun _ _ _ => False
theorem noF_ok {f : FuncId} (args : List AV) (h : Heap) (K : KO) (hl : noF args h K) : CallsA PP f args h K := hl.elim
noncomputable def E82d : Env2 := (G0.withF 279 isF).withF 280 noF
theorem E82d_ok : E82d.Ok := Env2.withF_ok (Env2.withF_ok G0_ok isF_ok) noF_ok
def ssT (n lo : Nat) (l : Tmps) : Tmps := l ++ [(2, cmpF), (1, .int .i64 n), (0, .nslice ⟨0, 0, 134, 0, 0⟩ 134 n lo)]
def ssS0 (n lo : Nat) (L : List MadeS) : St := ⟨63, ssT n lo [(8, .int .i64 20), (7, .int .i64 0), (6, .int .i64 20)], isH n L, []⟩
def ssE0 (n lo : Nat) (L : List MadeS) : St := ⟨63, ssT n lo [(7, .int .i64 0), (6, .int .i64 20)], isH n L, []⟩
def ssS2 (n lo : Nat) (L : List MadeS) : St := ⟨63, ssT n lo [(6, .int .i64 20)], isH n L, []⟩
def ssE2 (n lo : Nat) (L : List MadeS) : St := ⟨63, [], isH n L, []⟩
set_option maxRecDepth 100000 in
set_option maxHeartbeats 0 in
theorem ss_0 (n lo : Nat) (L : List MadeS) (Z : Prop) (hn : n < 20) (hZ : Z) :
    roundE E82d 20 254 0 1 (ssS0 n lo L) (rdM 1 0 9 (ssS0 n lo L) (ssE0 n lo L) (ssE0 n lo L) (ssE0 n lo L) False Z False False) := by
  refine @Eq.mpr _ (let q1 := rowC byL 0 1;
 let q2 := mRows L;
 let q3 := [AV.vrows 1 5 q1 5];
 let q4 := decide (n = n);
 iteB (decide (20 ≤ (↑n : Int))) ((∀ (i : Nat), i < n → true = true) ∧ ∃ (q : IsP), ∃ (a : Nat), ∃ (b : Nat), (n = n ∧ 0 = (↑a : Int) ∧ 20 = (↑b : Int)) ∧ IsP.Ok q n a b ∧ q1 = q1 ∧ q2 = mRows (IsP.all q) ∧ False) (q3 = q3 ∧ iteB (decide ((↑n : Int) = (↑n : Int))) (iteB q4 (iteB (decide (lo ≤ lo)) (iteB q4 (RowsEq 1 [] n q2 q2 ∧ Z) False) False) False) False)) (by kernel_rfl) ?_
  conv => zeta
  try simp only [need_eq]
  try simp only [nope_eq]
  try simp only [iteD_eq]
  try simp only [iteT_eq]
  try simp only [iteF_eq]
  try simp only [iteE_eq]
  try simp only [Int.toNat_natCast, Nat.zero_add, true_and, and_true, Nat.le_refl]
  exact ⟨fun h => by omega, fun _ => ⟨mRows_eq fun _ _ => rfl, hZ⟩⟩
set_option maxRecDepth 100000 in
set_option maxHeartbeats 0 in
theorem ss_2 (n lo : Nat) (L : List MadeS) (Z : Prop) (hn : n < 20) (hZ : Z) :
    roundE E82d 20 254 2 1 (ssS2 n lo L) (rdM 1 2 9 (ssS2 n lo L) (ssE2 n lo L) (ssE2 n lo L) (ssE2 n lo L) False Z False False) := by
  refine @Eq.mpr _ (iteB (decide (20 < (↑n : Int))) (iteB (decide (40 ≤ (↑n : Int))) False (iteB (decide (20 < (↑n : Int))) False False)) (iteB (decide (n = n)) (RowsEq 1 [] n (mRows L) (mRows L) ∧ Z) False)) (by kernel_rfl) ?_
  try simp only [need_eq]
  try simp only [nope_eq]
  try simp only [iteD_eq]
  try simp only [iteT_eq]
  try simp only [iteF_eq]
  try simp only [iteE_eq]
  try simp only [Int.toNat_natCast, Nat.zero_add, true_and, and_true, Nat.le_refl]
  exact ⟨fun h => absurd h (by omega), fun _ => ⟨mRows_eq fun _ _ => rfl, hZ⟩⟩
noncomputable def E82e (n lo : Nat) (L L1 : List MadeS) : Env2 := (E82d.withL 254 0 (goM 1 (ssS0 n lo L) (n < 20) (endsJ 0 0 9 (fun _ => False) (fun _ => True) (fun _ => False) (fun _ => False) (fun _ => ssE0 n lo L) (fun _ => ssE0 n lo L) (fun _ => ssE0 n lo L)))).withL 254 2 (goM 1 (ssS2 n lo L1) (n < 20) (endsJ 2 0 9 (fun _ => False) (fun _ => True) (fun _ => False) (fun _ => False) (fun _ => ssE2 n lo L1) (fun _ => ssE2 n lo L1) (fun _ => ssE2 n lo L1)))
theorem E82e_ok (n lo : Nat) (L L1 : List MadeS) : (E82e n lo L L1).Ok := by
  have h0 : (E82d.withL 254 0 _).Ok := Env2.withGoM (N := 20) (S := fun _ => ssS0 n lo L) (S0 := ssS0 n lo L) (C := n < 20) (n := 0) (l := 9) (go := fun _ => False) (ex := fun _ => True) (re := fun _ => False) (jm := fun _ => False) (En := fun _ => ssE0 n lo L) (Rn := fun _ => ssE0 n lo L) (Jn := fun _ => ssE0 n lo L) E82d_ok (by kernel_rfl) fun hC => ⟨rfl, fun t _ _ => (by
    have := ss_0 n lo L True hC trivial
    simpa only [false_and] using this)⟩
  have h2 : (E82d.withL 254 2 _).Ok := Env2.withGoM (N := 20) (S := fun _ => ssS2 n lo L1) (S0 := ssS2 n lo L1) (C := n < 20) (n := 0) (l := 9) (go := fun _ => False) (ex := fun _ => True) (re := fun _ => False) (jm := fun _ => False) (En := fun _ => ssE2 n lo L1) (Rn := fun _ => ssE2 n lo L1) (Jn := fun _ => ssE2 n lo L1) E82d_ok (by kernel_rfl) fun hC => ⟨rfl, fun t _ _ => (by
    have := ss_2 n lo L1 True hC trivial
    simpa only [false_and] using this)⟩
  exact Env2.withL_join (H := E82d) h0 rfl h2
set_option maxRecDepth 100000 in
set_option maxHeartbeats 0 in
theorem st_1 (n lo : Nat) (L L1 : List MadeS) (hn : n < 20) (hl : L.length = n) (hok : ∀ m ∈ L, m.Ok) (hL : L1 = sortM L) :
    evF (E82e n lo L L1) 20 209 [.nslice ⟨0, 0, 134, 0, 0⟩ 134 n lo, cmpF] (isH n L) (outM 1 (.ret (.tuple [])) 1 [(0, .rows 134 n (mRows L1))]) := by
  refine @Eq.mpr _ (let q1 := rowC byL 0 1;
 let q2 := [AV.vrows 1 5 q1 5];
 let q3 := q2 = q2;
 let q4 := decide ((↑n : Int) = (↑n : Int));
 let q5 := decide (n = n);
 let q6 := decide (lo ≤ lo);
 let q7 := mRows L;
 let q8 := mRows L1;
 let q9 := iteB q5 (RowsEq 1 [] n q8 q8 ∧ True) False;
 q3 ∧ iteB q4 (iteB q5 (iteB q6 (iteB q5 (RowsEq 1 [] n q7 q7 ∧ n < 20 ∧ ∀ (i : Nat), i ≤ 0 → (∀ (j : Nat), j < i → (fun (x : Nat) => False) j) → (True → (∀ (i : Nat), i < n → true = true) ∧ ∃ (q : IsP), ∃ (a : Nat), ∃ (b : Nat), (n = n ∧ 0 = (↑a : Int) ∧ (↑n : Int) = (↑b : Int)) ∧ IsP.Ok q n a b ∧ q1 = q1 ∧ q7 = mRows (IsP.all q) ∧ q3 ∧ iteB q4 (iteB q5 (iteB q6 (iteB q5 (RowsEq 1 [] n q8 (mRows (IsP.done q)) ∧ n < 20 ∧ ∀ (i : Nat), i ≤ 0 → (∀ (j : Nat), j < i → (fun (x : Nat) => False) j) → (True → q9) ∧ (False → q9) ∧ (False → False)) False) False) False) False) ∧ (False → iteB q5 (RowsEq 1 [] n q8 q7 ∧ True) False) ∧ (False → False)) False) False) False) False) (by kernel_rfl) ?_
  conv => zeta
  try simp only [need_eq]
  try simp only [nope_eq]
  try simp only [iteD_eq]
  try simp only [iteT_eq]
  try simp only [iteF_eq]
  try simp only [iteE_eq]
  try simp only [Int.toNat_natCast, Nat.zero_add, true_and, and_true, Nat.le_refl]
  refine ⟨mRows_eq fun _ _ => rfl, hn, fun i _ _ => ⟨fun _ => ⟨fun _ _ => trivial, ⟨[], L, []⟩, 0, n, ⟨rfl, rfl⟩, ⟨by simp [hl], rfl, by simp [hl], by omega, fun m hm => hok m (by simpa [IsP.all] using hm)⟩, by simp [IsP.all], mRows_eq fun _ _ => by simp [IsP.done, hL], hn, fun j _ _ => ⟨fun _ => mRows_eq fun _ _ => rfl, fun h => h.elim, fun h => h.elim⟩⟩, fun h => h.elim, fun h => h.elim⟩⟩
def stF : FSumm := fun args h K => match args with
  | .nslice p esz len lo :: r => frA [p.blk] h 20 (.nslice p esz len lo :: r) fun Bs a => match Bs, a with
    | [.rows 134 m f], [.nslice ⟨0, 0, 134, 0, 0⟩ 134 n lo, .func (.func 210) [] [.pview [.vrows 1 5 g 5] 0]] => ∃ (L : List MadeS), (m = n ∧ n < 20 ∧ L.length = n) ∧ (∀ m ∈ L, m.Ok) ∧ g = rowC byL 0 1 ∧ f = mRows L ∧ K (.ret (.tuple [])) ⟨h.next, (p.blk, .rows 134 n (mRows (sortM L))) :: delB h.bs p.blk⟩
    | _, _ => False
  | _ => False
theorem stF_ok (args : List AV) (h : Heap) (K : KO) (hl : stF args h K) : CallsA PP 209 args h K := by
  unfold stF at hl
  split at hl
  · rename_i p esz len lo r
    refine Spec.fsumm (σ := [p.blk]) (d := 20) hl fun Bs a₀ hlen h0 => ?_
    split at h0
    · obtain ⟨L, ⟨rfl, hn, hll⟩, hok, rfl, rfl, hK⟩ := h0
      exact ⟨_, _, _, _, _, .evM (E82e_ok _ _ _ _) (st_1 _ _ L _ hn hll hok rfl), Nat.le_refl 1, .ret _ _ rfl, .cons 0 _ _ _ _ _ rfl (.rows _ _ _ fun i _ => mRows_plain _ i) .nil, hK⟩
    · exact h0.elim
  · exact hl.elim
noncomputable def E82f : Env2 := G0.withF 209 stF
theorem E82f_ok : E82f.Ok := Env2.withF_ok G0_ok stF_ok
set_option maxRecDepth 100000 in
set_option maxHeartbeats 0 in
theorem od_1 (n lo : Nat) (L L1 : List MadeS) (hn : n < 20) (hl : L.length = n) (hok : ∀ m ∈ L, m.Ok) (hL : L1 = sortM L) :
    evF E82f 20 94 [.nslice ⟨0, 0, 134, 0, 0⟩ 134 n lo] (isH n L) (outM 1 (.ret (.nslice ⟨0, 0, 134, 0, 0⟩ 134 n lo)) 1 [(0, .rows 134 n (mRows L1))]) := by
  refine @Eq.mpr _ (let q1 := decide (n = n);
 (∀ (i : Nat), i < n → true = true) ∧ ∃ (L_1 : List MadeS), (n = n ∧ n < (20 : Nat) ∧ List.length L_1 = n) ∧ (∀ (m : MadeS), List.Mem m L_1 → MadeS.Ok m) ∧ rowC [AV.func (Fn.func (156 : Nat)) [] [], AV.func (Fn.func (158 : Nat)) [] [], AV.func (Fn.func (160 : Nat)) [] [], AV.func (Fn.func (161 : Nat)) [] [], AV.func (Fn.func (163 : Nat)) [] []] (0 : Nat) (1 : Nat) = rowC byL (0 : Nat) (1 : Nat) ∧ mRows L = mRows L_1 ∧ iteB q1 (iteB (decide (lo ≤ lo)) (iteB q1 (RowsEq (1 : Nat) [] n (mRows L1) (mRows (sortM L_1)) ∧ True) False) False) False) (by kernel_rfl) ?_
  conv => zeta
  try simp only [need_eq]
  try simp only [nope_eq]
  try simp only [iteD_eq]
  try simp only [iteT_eq]
  try simp only [iteF_eq]
  try simp only [iteE_eq]
  try simp only [Int.toNat_natCast, Nat.zero_add, true_and, and_true, Nat.le_refl]
  exact ⟨fun _ _ => trivial, L, ⟨hn, hl⟩, hok, rfl, rfl, mRows_eq fun _ _ => by rw [hL]⟩
set_option maxRecDepth 100000 in
set_option maxHeartbeats 0 in
theorem od_0 (X : Nat) (hn : X = X) :
    evF G0 20 94 [.nilslice] ⟨0, []⟩ (outM 0 (.ret .nilslice) 0 []) := by
  refine @Eq.mpr _ (True) (by kernel_rfl) ?_
  trivial
def orF : FSumm := fun args h K => match args with
  | [.nilslice] => K (.ret .nilslice) h
  | [.nslice p esz len lo] => frA [p.blk] h 20 [.nslice p esz len lo] fun Bs a => match Bs, a with
    | [.rows 134 m f], [.nslice ⟨0, 0, 134, 0, 0⟩ 134 n lo] => ∃ (L : List MadeS), (m = n ∧ n < 20 ∧ L.length = n) ∧ (∀ m ∈ L, m.Ok) ∧ (∀ i, i < n → f i = mRows L i) ∧ K (.ret (.nslice ⟨p.blk, 0, 134, 0, 0⟩ 134 n lo)) ⟨h.next, (p.blk, .rows 134 n (mRows (sortM L))) :: delB h.bs p.blk⟩
    | _, _ => False
  | _ => False
theorem orF_ok (args : List AV) (h : Heap) (K : KO) (hl : orF args h K) : CallsA PP 94 args h K := by
  unfold orF at hl
  split at hl
  · exact (Pure.evM G0_ok (od_0 0 rfl)).calls (fun E w rs he hr => by
      cases hr with
      | cons v r vs rs h1 h2 => cases h2; exact .cons _ _ _ _ (h1.plain rfl) .nil) rfl trivial hl
  · rename_i p esz len lo
    refine Spec.fsumm (σ := [p.blk]) (d := 20) hl fun Bs a₀ hlen h0 => ?_
    split at h0
    · obtain ⟨L, ⟨rfl, hn, hll⟩, hok, hf, hK⟩ := h0
      exact ⟨_, _, _, _, _, .rows hf (.evM E82f_ok (od_1 _ _ L _ hn hll hok rfl)), Nat.le_refl 1, .ret _ _ rfl, .cons 0 _ _ _ _ _ rfl (.rows _ _ _ fun i _ => mRows_plain _ i) .nil, hK⟩
    · exact h0.elim
  · exact hl.elim
end Go.Tk
end
section
namespace Go.Tk
def noRows : Nat → List AV := fun _ => []
set_option maxRecDepth 100000 in
set_option maxHeartbeats 0 in
theorem cle_0 (X : Nat) (hn : X = X) :
    evF G0 20 167 [.nilslice] ⟨0, []⟩ (outM 0 (.ret (.nslice ⟨0, 0, 34, 0, 0⟩ 34 0 0)) 1 [(0, .rows 34 0 noRows)]) := by
  refine @Eq.mpr _ (True) (by kernel_rfl) ?_
  trivial
set_option maxRecDepth 100000 in
set_option maxHeartbeats 0 in
theorem cle_1 (X : Nat) (hn : X = X) :
    evF G0 20 167 [.fslice] ⟨0, []⟩ (outM 0 (.ret (.nslice ⟨0, 0, 34, 0, 0⟩ 34 0 0)) 1 [(0, .rows 34 0 noRows)]) := by
  refine @Eq.mpr _ (RowsEq 0 [(0, 0)] 0 noRows (catF 0 (fun (x : Nat) => []) fun (x : Nat) => []) ∧ True) (by kernel_rfl) ?_
  exact ⟨⟨fun i hi => absurd hi (Nat.not_lt_zero i)⟩, trivial⟩
def cleF : FSumm := fun args h K => match args with
  | [.eslice] => K (.ret (.nslice ⟨h.next, 0, 34, 0, 0⟩ 34 0 0)) ⟨h.next + 1, (h.next, .rows 34 0 noRows) :: h.bs⟩
  | _ => False
theorem cleF_ok (args : List AV) (h : Heap) (K : KO) (hl : cleF args h K) : CallsA PP 167 args h K := by
  unfold cleF at hl
  split at hl
  · refine CallsA.eslice ?_ ?_
    · exact (Pure.evM G0_ok (cle_0 0 rfl)).calls (fun E w rs he hr => by
        cases hr with
        | cons v r vs rs h1 h2 => cases h2; exact .cons _ _ _ _ (h1.plain rfl) .nil) rfl ⟨Nat.one_pos, .rows _ _ _ (fun i hi => absurd hi (Nat.not_lt_zero i)), trivial⟩ hl
    · exact (Pure.evM G0_ok (cle_1 0 rfl)).calls (fun E w rs he hr => by
        cases hr with
        | cons v r vs rs h1 h2 => cases h2; exact .cons _ _ _ _ (h1.plain rfl) .nil) rfl ⟨Nat.one_pos, .rows _ _ _ (fun i hi => absurd hi (Nat.not_lt_zero i)), trivial⟩ hl
  · exact hl.elim
end Go.Tk
end
section
namespace Go.Tk
structure MadeS.Okb (m : MadeS) : Prop where
  ok : m.Ok
  hb : Bytes m.o.hash
set_option maxRecDepth 100000 in
set_option maxHeartbeats 0 in
theorem le_1 (a b : MadeS) (r : Bool) (ha : a.Okb) (hb : b.Okb) (hr : r = ltM a b) :
    evF (G0.withP 102 ordS) 20 164 [.agg a.c, .agg b.c] ⟨0, []⟩ (outV (fun v => v = .bool r)) := by
  refine @Eq.mpr _ (let q1 := a.o;
 let q2 := q1.amount;
 let q3 := b.o;
 let q4 := q3.amount;
 let q5 := AV.bool r;
 let q6 := q1.kind;
 let q7 := q3.kind;
 let q8 := q1.expiry;
 let q9 := q3.expiry;
 let q10 := q1.hash;
 let q11 := q3.hash;
 let q12 := cmpI q10 q11;
 iteB (q2 != q4) (AV.bool (decide (q2 < q4)) = q5) (iteB (q6 != q7) (AV.bool (decide (q6 < q7)) = q5) (iteB (q8 != q9) (AV.bool (decide (q8 < q9)) = q5) ((List.length q10 = 32 ∧ List.length q11 = 32) ∧ Bytes q10 ∧ Bytes q11 ∧ iteB (q12 != 0) (AV.bool (decide (q12 < 0)) = q5) (AV.bool (decide (a.id < b.id)) = q5))))) (by kernel_rfl) ?_
  conv => zeta
  try simp only [need_eq]
  try simp only [nope_eq]
  try simp only [iteD_eq]
  try simp only [iteT_eq]
  try simp only [iteF_eq]
  try simp only [iteE_eq]
  try simp only [Int.toNat_natCast, Nat.zero_add, true_and, and_true, Nat.le_refl]
  have h4 := cmpI_spec (ha.ok.hash.trans hb.ok.hash.symm)
  have k1 := ha.ok.hash
  have k2 := hb.ok.hash
  have k3 := ha.hb
  have k4 := hb.hb
  subst hr
  unfold ltM
  generalize cmpI a.o.hash b.o.hash = c4 at *
  generalize valU a.o.hash = v1 at *
  generalize valU b.o.hash = v2 at *
  refine ⟨fun h1 => ?_, fun h1 => ⟨fun h2 => ?_, fun h2 => ⟨fun h3 => ?_, fun h3 => ⟨⟨k1, k2⟩, k3, k4, fun h5 => ?_, fun h5 => ?_⟩⟩⟩⟩
  all_goals
    simp only [bne_iff_ne, ne_eq, bne_eq_false_iff_eq] at *
    congr 1
    rw [decide_eq_decide]
    omega
def lessS : PSumm := fun args _ K => match args with
  | [.agg ca, .agg cb] => ∃ a b, ca = MadeS.c a ∧ cb = MadeS.c b ∧ (a.Okb ∧ b.Okb) ∧ K (.bool (ltM a b))
  | _ => False
theorem lessS_ok (args : List AV) (h : Heap) (K : AV → Prop) (hl : lessS args h K) : CallsA PP 164 args h fun o h' => ∃ v, o = .ret v ∧ h' = h ∧ K v := by
  unfold lessS at hl
  split at hl
  · obtain ⟨a, b, rfl, rfl, ⟨h1, h2⟩, hK⟩ := hl
    exact outV_ev (Env2.withP_ok G0_ok ordS_ok) rfl (le_1 a b _ h1 h2 rfl) (fun u hu => hu ▸ hK)
  · exact hl.elim
def puStep (m : MadeS) (s : List MadeS × Bool) (x : MadeS) : List MadeS × Bool := match !s.2 && ltM m x with
  | true => (s.1 ++ [m] ++ [x], true)
  | false => (s.1 ++ [x], s.2)
def puN (m : MadeS) (L : List MadeS) (i : Nat) : List MadeS × Bool := (L.take i).foldl (puStep m) ([], false)
def puFin (m : MadeS) (s : List MadeS × Bool) : List MadeS := match s.2 with
  | true => s.1
  | false => s.1 ++ [m]
theorem puN_succ (m : MadeS) (L : List MadeS) {i : Nat} (hi : i < L.length) : puN m L (i + 1) = puStep m (puN m L i) (L.getD i made0) := by
  unfold puN
  rw [List.take_succ_eq_append_getElem hi, List.foldl_append, List.getD_eq_getElem?_getD, List.getElem?_eq_getElem hi]
  rfl
theorem puF_true (m : MadeS) : ∀ (L O : List MadeS), L.foldl (puStep m) (O, true) = (O ++ L, true)
  | [], O => by simp
  | x :: r, O => by
    rw [List.foldl_cons]
    show List.foldl (puStep m) (O ++ [x], true) r = _
    rw [puF_true m r]; simp
theorem puF_fin (m : MadeS) : ∀ (L O : List MadeS), puFin m (L.foldl (puStep m) (O, false)) = O ++ insL ltM m L
  | [], O => rfl
  | x :: r, O => by
    rw [List.foldl_cons]
    unfold insL
    cases h : ltM m x with
    | true =>
      have : puStep m (O, false) x = (O ++ [m] ++ [x], true) := by unfold puStep; rw [h]; rfl
      rw [this, puF_true]
      simp [puFin]
    | false =>
      have : puStep m (O, false) x = (O ++ [x], false) := by unfold puStep; rw [h]; rfl
      rw [this, puF_fin m r]
      simp
theorem puN_fin (m : MadeS) (L : List MadeS) : puFin m (puN m L L.length) = insL ltM m L := by
  unfold puN
  rw [List.take_length, puF_fin]; rfl
theorem mRows_cat {O P : List MadeS} {c i : Nat} (hc : O.length = c) : catF c (mRows O) (mRows P) i = mRows (O ++ P) i := by
  unfold mRows
  rcases Nat.lt_or_ge i c with h | h
  · rw [catF_lt h, List.getD_eq_getElem?_getD, List.getD_eq_getElem?_getD, List.getElem?_append_left (by omega)]
  · rw [catF_ge h, List.getD_eq_getElem?_getD, List.getD_eq_getElem?_getD, List.getElem?_append_right (by omega), hc]
theorem puN_len (m : MadeS) (L : List MadeS) : ∀ i, i ≤ L.length → (puN m L i).1.length ≤ i + 1 ∧ ((puN m L i).2 = false → (puN m L i).1.length = i)
  | 0, _ => by simp [puN]
  | i + 1, h => by
    obtain ⟨h1, h2⟩ := puN_len m L i (by omega)
    rw [puN_succ m L (by omega)]
    unfold puStep
    cases hd : (puN m L i).2 with
    | true => simp; omega
    | false =>
      have := h2 hd
      cases ltM m (L.getD i made0) <;> simp <;> omega
def puS (n : Nat) (L : List MadeS) (m : MadeS) (i c : Nat) (D : Bool) (O : List MadeS) : St := ⟨42, [(7, .int .i64 i), (0, .vrows 134 n (mRows L) n), (6, .bool D), (3, .ptr (some ⟨0, 0, 0, 0, 0⟩)), (5, .nslice ⟨1, 0, 134, 0, 0⟩ 134 c c)], ⟨2, [(0, .flat m.c), (1, .rows 134 c (mRows O))]⟩, []⟩
def puE (m : MadeS) (c : Nat) (D : Bool) (O : List MadeS) : St := ⟨42, [(6, .bool D), (3, .ptr (some ⟨0, 0, 0, 0, 0⟩)), (5, .nslice ⟨1, 0, 134, 0, 0⟩ 134 c c)], ⟨2, [(0, .flat m.c), (1, .rows 134 c (mRows O))]⟩, []⟩
noncomputable def E84 : Env2 := G0.withP 164 lessS
theorem E84_ok : E84.Ok := Env2.withP_ok G0_ok lessS_ok
theorem rows_snoc {f : Nat → List AV} {O : List MadeS} {x : MadeS} {c i : Nat} (hc : O.length = c) (hf : ∀ i, i < c → f i = mRows O i) (hi : i < c + 1) : catF c f (rowC (MadeS.c x) 0 134) i = mRows (O ++ [x]) i := by
  rcases Nat.lt_or_ge i c with h | h
  · rw [catF_lt h, hf i h]
    unfold mRows
    rw [List.getD_eq_getElem?_getD, List.getD_eq_getElem?_getD, List.getElem?_append_left (by omega)]
  · have e : i = c := by omega
    subst e
    rw [catF_ge (Nat.le_refl _), Nat.sub_self]
    unfold mRows
    rw [List.getD_eq_getElem?_getD, List.getElem?_append_right (by omega), hc, Nat.sub_self]
    rfl
set_option maxRecDepth 100000 in
set_option maxHeartbeats 0 in
theorem pu_1 (n i c c1 : Nat) (L O O1 : List MadeS) (m : MadeS) (D D1 : Bool) (Z1 Z2 : Prop) (hn : n < 1000) (hL : L.length = n) (hi : i ≤ n) (hO : O.length = c) (hci : c ≤ i + 1) (hm : m.Okb) (hok : ∀ x ∈ L, x.Okb) (h1 : i < n → puStep m (O, D) (L.getD i made0) = (O1, D1)) (hc1 : c1 = O1.length) (hZ1 : i < n → Z1) (hZ2 : i = n → Z2) :
    roundE E84 20 95 0 0 (puS n L m i c D O) (rdM 0 0 9 (puS n L m (i + 1) c1 D1 O1) (puE m c D O) (puE m c D O) (puE m c D O) Z1 Z2 False False) := by
  refine @Eq.mpr _ (let q1 := decide (0 ≤ (↑i : Int) ∧ (↑i : Int) < (↑n : Int));
 let q2 := m.o;
 let q3 := q2.kind;
 let q4 := q2.amount;
 let q5 := q2.owner;
 let q6 := q2.other;
 let q7 := q2.point;
 let q8 := q2.hash;
 let q9 := q2.delay;
 let q10 := q2.expiry;
 let q11 := m.id;
 let q12 := m.what;
 let q13 := [AV.int IntKind.i64 q3, AV.int IntKind.i64 q4, AV.arr IntKind.u8 32 q5, AV.arr IntKind.u8 32 q6, AV.arr IntKind.u8 32 q7, AV.arr IntKind.u8 32 q8, AV.int IntKind.i64 q9, AV.int IntKind.i64 q10, AV.int IntKind.i64 q11, AV.int IntKind.i64 q12];
 let q14 := List.getD L (Int.toNat (↑i : Int)) made0;
 let q15 := q14.o;
 let q16 := [AV.int IntKind.i64 q15.kind, AV.int IntKind.i64 q15.amount, AV.arr IntKind.u8 32 q15.owner, AV.arr IntKind.u8 32 q15.other, AV.arr IntKind.u8 32 q15.point, AV.arr IntKind.u8 32 q15.hash, AV.int IntKind.i64 q15.delay, AV.int IntKind.i64 q15.expiry, AV.int IntKind.i64 q14.id, AV.int IntKind.i64 q14.what];
 let q17 := decide (c = c);
 let q18 := c + 1;
 let q19 := decide (q18 * 176 ≤ 140737488355328);
 let q20 := q18 + 1;
 let q21 := decide (IntKind.wrap IntKind.i64 ((↑i : Int) + 1) = (↑(i + 1) : Int));
 let q22 := decide (n = n);
 let q23 := mRows L = mRows L;
 let q24 := decide (q20 = c1);
 let q25 := decide (q3 = q3);
 let q26 := decide (q4 = q4);
 let q27 := q5 = q5;
 let q28 := q6 = q6;
 let q29 := q7 = q7;
 let q30 := q8 = q8;
 let q31 := decide (q9 = q9);
 let q32 := decide (q10 = q10);
 let q33 := decide (q11 = q11);
 let q34 := decide (q12 = q12);
 let q35 := [(0, 0)];
 let q36 := mRows O;
 let q37 := rowC q16 0 134;
 let q38 := decide (q18 = c1);
 let q39 := iteB q1 (iteB q17 (iteB q19 (iteB q21 (iteB q22 (q23 ∧ iteB q22 (iteB (decide (D = D1)) (iteB q38 (iteB (decide (c1 ≤ q18)) (iteB q25 (iteB q26 (q27 ∧ q28 ∧ q29 ∧ q30 ∧ iteB q31 (iteB q32 (iteB q33 (iteB q34 (iteB q38 (RowsEq 0 ((1, 3) :: q35) c1 (mRows O1) (catF c q36 q37) ∧ Z1) False) False) False) False) False) False) False) False) False) False) False) False) False) False) False) False;
 iteB (decide ((↑i : Int) < (↑n : Int))) (iteB (!D) (iteB q1 (∃ (a : MadeS), ∃ (b : MadeS), q13 = MadeS.c a ∧ q16 = MadeS.c b ∧ (MadeS.Okb a ∧ MadeS.Okb b) ∧ iteB (ltM a b) (iteB q17 (iteB q19 (iteB q1 (iteB (decide (q18 = q18)) (iteB (decide (q20 * 176 ≤ 140737488355328)) (iteB q21 (iteB q22 (q23 ∧ iteB q22 (iteB (decide (true = D1)) (iteB q24 (iteB (decide (c1 ≤ q20)) (iteB q25 (iteB q26 (q27 ∧ q28 ∧ q29 ∧ q30 ∧ iteB q31 (iteB q32 (iteB q33 (iteB q34 (iteB q24 (RowsEq 0 ((1, 5) :: q35) c1 (mRows O1) (catF q18 (catF c q36 (rowC q13 0 134)) q37) ∧ Z1) False) False) False) False) False) False) False) False) False) False) False) False) False) False) False) False) False) False) q39) False) q39) (iteB (decide (D = D)) (iteB q17 (iteB (decide (c ≤ c)) (iteB q25 (iteB q26 (q27 ∧ q28 ∧ q29 ∧ q30 ∧ iteB q31 (iteB q32 (iteB q33 (iteB q34 (iteB q17 (RowsEq 0 ((1, 1) :: q35) c q36 q36 ∧ Z2) False) False) False) False) False) False) False) False) False) False)) (by kernel_rfl) ?_
  conv => zeta
  try simp only [need_eq]
  try simp only [nope_eq]
  try simp only [iteD_eq]
  try simp only [iteT_eq]
  try simp only [iteF_eq]
  try simp only [iteE_eq]
  try simp only [Int.toNat_natCast, Nat.zero_add, true_and, and_true, Nat.le_refl]
  refine ⟨fun hc => ?_, fun hc => ⟨mRows_eq fun _ _ => rfl, hZ2 (by omega)⟩⟩
  have hlt : i < n := by omega
  have h1 := h1 hlt
  have hwr : IntKind.i64.wrap ((i : Int) + 1) = ((i + 1 : Nat) : Int) := by rw [w64 (by omega)]; omega
  have hx : (L.getD i made0).Okb := hok _ (by rw [List.getD_eq_getElem?_getD, List.getElem?_eq_getElem (show i < L.length by omega)]; exact List.getElem_mem _)
  generalize L.getD i made0 = x at *
  unfold puStep at h1
  refine ⟨fun hD => ?_, fun hD => ?_⟩
  · have hD : D = false := by simpa using hD
    refine ⟨by omega, m, x, rfl, rfl, ⟨hm, hx⟩, fun hlt => ?_, fun hlt => ?_⟩
    · rw [hD, hlt] at h1
      simp only [Bool.not_false, Bool.and_self, Prod.mk.injEq] at h1
      obtain ⟨h1, h2⟩ := h1
      subst h1 h2
      have hl : c1 = c + 1 + 1 := by rw [hc1]; simp [hO]
      subst hl
      refine ⟨by omega, by omega, by omega, hwr, rfl, rfl, Nat.le_refl _, rfl, mRows_eq fun j hj => ?_, hZ1 (by omega)⟩
      exact rows_snoc (by simp [hO]) (fun k hk => rows_snoc hO (fun _ _ => rfl) hk) hj
    · rw [hD, hlt] at h1
      simp only [Bool.not_false, Bool.and_false, Prod.mk.injEq] at h1
      obtain ⟨h1, h2⟩ := h1
      subst h1 h2
      have hl : c1 = c + 1 := by rw [hc1]; simp [hO]
      subst hl
      exact ⟨by omega, by omega, hwr, hD, rfl, Nat.le_refl _, rfl, mRows_eq fun j hj => rows_snoc hO (fun _ _ => rfl) hj, hZ1 (by omega)⟩
  · have hD : D = true := by simpa using hD
    rw [hD] at h1
    simp only [Bool.not_true, Bool.false_and, Prod.mk.injEq] at h1
    obtain ⟨h1, h2⟩ := h1
    subst h1 h2
    have hl : c1 = c + 1 := by rw [hc1]; simp [hO]
    subst hl
    exact ⟨by omega, by omega, hwr, hD, rfl, Nat.le_refl _, rfl, mRows_eq fun j hj => rows_snoc hO (fun _ _ => rfl) hj, hZ1 (by omega)⟩
structure PuOk (n : Nat) (L : List MadeS) (m : MadeS) : Prop where
  hn : n < 1000
  hl : L.length = n
  hm : m.Okb
  ok : ∀ x ∈ L, x.Okb
noncomputable def E84b (n : Nat) (L : List MadeS) (m : MadeS) : Env2 := E84.withL 95 0 (goM 0 (puS n L m 0 0 false []) (PuOk n L m) (endsJ 0 n 9 (fun i => i < n) (fun i => i = n) (fun _ => False) (fun _ => False) (fun i => puE m (puN m L i).1.length (puN m L i).2 (puN m L i).1) (fun i => puE m (puN m L i).1.length (puN m L i).2 (puN m L i).1) (fun i => puE m (puN m L i).1.length (puN m L i).2 (puN m L i).1)))
theorem E84b_ok (n : Nat) (L : List MadeS) (m : MadeS) : (E84b n L m).Ok :=
  Env2.withGoM (N := 20) (S := fun i => puS n L m i (puN m L i).1.length (puN m L i).2 (puN m L i).1) E84_ok (by kernel_rfl) fun hC => ⟨rfl, fun i hi _ => by
    obtain ⟨h1, h2, h3, h4⟩ := hC
    exact pu_1 n i _ _ L _ _ m _ _ (i < n ∧ i < n) (i = n) h1 h2 hi rfl (puN_len m L i (by omega)).1 h3 h4 (fun hlt => by rw [puN_succ m L (by omega)]) rfl (fun h => ⟨h, h⟩) (fun h => h)⟩
set_option maxRecDepth 100000 in
set_option maxHeartbeats 0 in
theorem pu_f (n : Nat) (L L1 : List MadeS) (m : MadeS) (h : PuOk n L m) (hL1 : L1 = insL ltM m L) :
    evF (E84b n L m) 20 95 [.vrows 134 n (mRows L) n, .agg m.c] ⟨0, []⟩ (outM 0 (.ret (.nslice ⟨0, 0, 134, 0, 0⟩ 134 (n + 1) (n + 1))) 1 [(0, .rows 134 (n + 1) (mRows L1))]) := by
  refine @Eq.mpr _ (let q1 := decide (n = n);
 let q2 := m.o;
 let q3 := q2.kind;
 let q4 := q2.amount;
 let q5 := q2.owner;
 let q6 := q2.other;
 let q7 := q2.point;
 let q8 := q2.hash;
 let q9 := q2.delay;
 let q10 := q2.expiry;
 let q11 := m.id;
 let q12 := m.what;
 let q13 := n + 1;
 iteB q1
 (mRows L = mRows L ∧
 iteB q1
 (iteB (decide (q3 = q3))
 (iteB (decide (q4 = q4))
 (q5 = q5 ∧
 q6 = q6 ∧
 q7 = q7 ∧
 q8 = q8 ∧
 iteB (decide (q9 = q9))
 (iteB (decide (q10 = q10))
 (iteB (decide (q11 = q11))
 (iteB (decide (q12 = q12))
 (PuOk n L m ∧
 ∀ (i : Nat),
 let q27 := (puN m L i).fst;
 let q28 := List.length q27;
 let q29 := q28 + 1;
 let q30 := decide (q29 = q13);
 let q31 := mRows q27;
 let q32 := decide (q28 = q13);
 i ≤ n → (∀ (j : Nat), j < i → (fun (i : Nat) => i < n) j) → (i = n → iteB (!(puN m L i).snd) (iteB (decide (q28 = q28)) (iteB (decide (q29 * 176 ≤ 140737488355328)) (iteB q30 (iteB (decide (q13 ≤ q29)) (iteB q30 (RowsEq 0 [(0, 3)] q13 (mRows L1) (catF q28 q31 (rowC [AV.int IntKind.i64 q3, AV.int IntKind.i64 q4, AV.arr IntKind.u8 32 q5, AV.arr IntKind.u8 32 q6, AV.arr IntKind.u8 32 q7, AV.arr IntKind.u8 32 q8, AV.int IntKind.i64 q9, AV.int IntKind.i64 q10, AV.int IntKind.i64 q11, AV.int IntKind.i64 q12] 0 134)) ∧ True) False) False) False) False) False) (iteB q32 (iteB (decide (q13 ≤ q28)) (iteB q32 (RowsEq 0 [(0, 1)] q13 (mRows L1) q31 ∧ True) False) False) False)) ∧ (False → False) ∧ (False → False))
 False)
 False)
 False)
 False)
 False)
 False)
 False)
 False) (by kernel_rfl) ?_
  conv => zeta
  try simp only [need_eq]
  try simp only [nope_eq]
  try simp only [iteD_eq]
  try simp only [iteT_eq]
  try simp only [iteF_eq]
  try simp only [iteE_eq]
  try simp only [Int.toNat_natCast, Nat.zero_add, true_and, and_true, Nat.le_refl]
  refine ⟨h, fun i hi _ => ⟨fun he => ?_, fun h => h.elim, fun h => h.elim⟩⟩
  subst he
  have hfin := puN_fin m L
  obtain ⟨g1, g2⟩ := puN_len m L i (by rw [h.hl]; exact Nat.le_refl _)
  rw [h.hl] at hfin
  have hn := h.hn
  have hl1 : L1.length = i + 1 := by rw [hL1, insL_len, h.hl]
  unfold puFin at hfin
  refine ⟨fun hD => ?_, fun hD => ?_⟩
  · have hD : (puN m L i).2 = false := by simpa using hD
    rw [hD] at hfin
    simp only at hfin
    have hl := g2 hD
    exact ⟨by omega, by omega, by omega, by omega, mRows_eq fun j hj => by rw [hL1, ← hfin]; exact rows_snoc rfl (fun _ _ => rfl) (by omega)⟩
  · have hD : (puN m L i).2 = true := by simpa using hD
    rw [hD] at hfin
    simp only at hfin
    rw [hfin]
    rw [hL1] at hl1
    exact ⟨by omega, by omega, by omega, mRows_eq fun j hj => by rw [hL1]⟩
set_option maxRecDepth 100000 in
set_option maxHeartbeats 0 in
theorem pu_n (m : MadeS) (L1 : List MadeS) (hL : L1 = [m]) :
    evF G0 20 95 [.nilslice, .agg m.c] ⟨0, []⟩ (outM 0 (.ret (.nslice ⟨0, 0, 134, 0, 0⟩ 134 1 1)) 1 [(0, .rows 134 1 (mRows L1))]) := by
  refine @Eq.mpr _ (let q1 := m.o;
 RowsEq 0 [(0, 2)] 1 (mRows L1) (catF 0 (fun (x : Nat) => []) (rowC [AV.int IntKind.i64 q1.kind, AV.int IntKind.i64 q1.amount, AV.arr IntKind.u8 32 q1.owner, AV.arr IntKind.u8 32 q1.other, AV.arr IntKind.u8 32 q1.point, AV.arr IntKind.u8 32 q1.hash, AV.int IntKind.i64 q1.delay, AV.int IntKind.i64 q1.expiry, AV.int IntKind.i64 m.id, AV.int IntKind.i64 m.what] 0 134)) ∧ True) (by kernel_rfl) ?_
  conv => zeta
  try simp only [need_eq]
  try simp only [nope_eq]
  try simp only [iteD_eq]
  try simp only [iteT_eq]
  try simp only [iteF_eq]
  try simp only [iteE_eq]
  try simp only [Int.toNat_natCast, Nat.zero_add, true_and, and_true, Nat.le_refl]
  refine mRows_eq fun i hi => ?_
  subst hL
  have e : i = 0 := by omega
  subst e
  rfl
def puF : FSumm := fun args h K => viewL none h true 20 args fun a => match a with
  | [.nilslice, .agg cm] => ∃ m, cm = MadeS.c m ∧ K (.ret (.nslice ⟨h.next, 0, 134, 0, 0⟩ 134 1 1)) ⟨h.next + 1, (h.next, .rows 134 1 (mRows (insL ltM m []))) :: h.bs⟩
  | [.vrows 134 n f n', .agg cm] => ∃ L m, n' = n ∧ f = mRows L ∧ cm = MadeS.c m ∧ PuOk n L m ∧ K (.ret (.nslice ⟨h.next, 0, 134, 0, 0⟩ 134 (n + 1) (n + 1))) ⟨h.next + 1, (h.next, .rows 134 (n + 1) (mRows (insL ltM m L))) :: h.bs⟩
  | _ => False
theorem puF_ok (args : List AV) (h : Heap) (K : KO) (hl : puF args h K) : CallsA PP 95 args h K := by
  refine Pure.fsumm (d := 20) (viewL_weak _ _ _ _ _ hl fun a ha => ?_)
  split at ha
  · obtain ⟨m, rfl, hK⟩ := ha
    exact ⟨_, _, _, _, .evM G0_ok (pu_n m _ rfl), rfl, ⟨Nat.one_pos, .rows _ _ _ (fun i _ => mRows_plain _ i), trivial⟩, hK⟩
  · obtain ⟨L, m, rfl, rfl, rfl, hp, hK⟩ := ha
    exact ⟨_, _, _, _, .evM (E84b_ok _ L m) (pu_f _ L _ m hp rfl), rfl, ⟨Nat.one_pos, .rows _ _ _ (fun i _ => mRows_plain _ i), trivial⟩, hK⟩
  · exact ha.elim
end Go.Tk
end
section
namespace Go.Tk
def inOf (t : TermS) : InS := ⟨t.fund, t.index, 1, zero32, zero32, zero32⟩
def mOuts (L : List MadeS) : Nat → OutS := fun i => (L.getD i made0).o
def txZ : List AV := [.int .i64 0, .nilslice, .nilslice]
def mxH (t : TermS) (num : Int) (L : List MadeS) (i : Nat) : Heap := ⟨4, [(0, .flat txZ), (1, .flat (InS.c (inOf t))), (2, .flat [.int .i64 num, .nslice ⟨1, 0, 0, 0, 0⟩ 130 1 1, .nslice ⟨3, 0, 132, 0, 0⟩ 132 i i]), (3, .rows 132 i (outRows (mOuts L)))]⟩
def mxS (t : TermS) (num : Int) (L : List MadeS) (n i : Nat) : St := ⟨40, [(27, .int .i64 i), (26, .int .i64 n), (25, .vrows 134 n (mRows L) n), (8, .ptr (some ⟨2, 0, 0, 0, 0⟩)), (6, .ptr (some ⟨0, 0, 0, 0, 0⟩))], mxH t num L i, []⟩
def mxE (t : TermS) (num : Int) (L : List MadeS) (i : Nat) : St := ⟨40, [(8, .ptr (some ⟨2, 0, 0, 0, 0⟩)), (6, .ptr (some ⟨0, 0, 0, 0, 0⟩))], mxH t num L i, []⟩
def mxrS (t : TermS) (num : Int) (L : List MadeS) (n i : Nat) : St := ⟨39, [(9, .int .i64 i), (2, .vrows 134 n (mRows L) n), (8, .ptr (some ⟨2, 0, 0, 0, 0⟩)), (6, .ptr (some ⟨0, 0, 0, 0, 0⟩))], mxH t num L i, []⟩
def mxrE (t : TermS) (num : Int) (L : List MadeS) (i : Nat) : St := ⟨39, [(8, .ptr (some ⟨2, 0, 0, 0, 0⟩)), (6, .ptr (some ⟨0, 0, 0, 0, 0⟩))], mxH t num L i, []⟩
theorem orows_snoc {L : List MadeS} {i j : Nat} (hj : j < i + 1) : catF i (outRows (mOuts L)) (rowC (OutS.c (L.getD i made0).o) 0 132) j = (mOuts L j).c := by
  rcases Nat.lt_or_ge j i with h | h
  · rw [catF_lt h]; rfl
  · have e : j = i := by omega
    subst e
    rw [catF_ge (Nat.le_refl _), Nat.sub_self]
    rfl
set_option maxRecDepth 100000 in
set_option maxHeartbeats 0 in
theorem mx_1 (t : TermS) (num : Int) (L : List MadeS) (n i : Nat) (Z1 Z2 : Prop) (hn : n < 1000) (hi : i ≤ n) (h1 : i < n → Z1) (h2 : i = n → Z2) :
    roundE G0 20 83 0 0 (mxS t num L n i) (rdM 0 0 9 (mxS t num L n (i + 1)) (mxE t num L i) (mxE t num L i) (mxE t num L i) Z1 Z2 False False) := by
  refine @Eq.mpr _ (let q1 := decide (i = i);
 let q2 := i + 1;
 let q3 := decide (n = n);
 let q4 := inOf t;
 let q5 := q4.name;
 let q6 := q5 = q5;
 let q7 := q4.index;
 let q8 := decide (q7 = q7);
 let q9 := q4.tag;
 let q10 := q9 = q9;
 let q11 := q4.also;
 let q12 := q11 = q11;
 let q13 := q4.secret;
 let q14 := q13 = q13;
 let q15 := decide (num = num);
 let q16 := decide (q2 = q2);
 let q17 := [(1, 1), (0, 0), (2, 2)];
 let q18 := outRows (mOuts L);
 let q19 := (List.getD L (Int.toNat (↑i : Int)) made0).o;
 iteB (decide ((↑i : Int) < (↑n : Int))) (iteB (decide (0 ≤ (↑i : Int) ∧ (↑i : Int) < (↑n : Int))) (iteB q1 (iteB (decide (q2 * 160 ≤ 140737488355328)) (iteB (decide (IntKind.wrap IntKind.i64 ((↑i : Int) + 1) = (↑q2 : Int))) (iteB (decide ((↑n : Int) = (↑n : Int))) (iteB q3 (mRows L = mRows L ∧ iteB q3 (q6 ∧ iteB q8 (q10 ∧ q12 ∧ q14 ∧ iteB q15 (iteB q16 (iteB (decide (q2 ≤ q2)) (iteB q16 (RowsEq 0 ((3, 6) :: q17) q2 q18 (catF i q18 (rowC [AV.int IntKind.i64 q19.kind, AV.int IntKind.i64 q19.amount, AV.arr IntKind.u8 32 q19.owner, AV.arr IntKind.u8 32 q19.other, AV.arr IntKind.u8 32 q19.point, AV.arr IntKind.u8 32 q19.hash, AV.int IntKind.i64 q19.delay, AV.int IntKind.i64 q19.expiry] 0 132)) ∧ Z1) False) False) False) False) False) False) False) False) False) False) False) False) (q6 ∧ iteB q8 (q10 ∧ q12 ∧ q14 ∧ iteB q15 (iteB q1 (iteB (decide (i ≤ i)) (iteB q1 (RowsEq 0 ((3, 3) :: q17) i q18 q18 ∧ Z2) False) False) False) False) False)) (by kernel_rfl) ?_
  conv => zeta
  try simp only [need_eq]
  try simp only [nope_eq]
  try simp only [iteD_eq]
  try simp only [iteT_eq]
  try simp only [iteF_eq]
  try simp only [iteE_eq]
  try simp only [Int.toNat_natCast, Nat.zero_add, true_and, and_true, Nat.le_refl]
  refine ⟨fun hc => ?_, fun hc => ⟨outRowsEq fun _ _ => rfl, h2 (by omega)⟩⟩
  exact ⟨by omega, by omega, by rw [w64 (by omega)]; omega, outRowsEq fun j hj => orows_snoc hj, h1 (by omega)⟩
set_option maxRecDepth 100000 in
set_option maxHeartbeats 0 in
theorem mxr_1 (t : TermS) (num : Int) (L : List MadeS) (n i : Nat) (Z1 Z2 : Prop) (hn : n < 1000) (hi : i ≤ n) (h1 : i < n → Z1) (h2 : i = n → Z2) :
    roundE G0 20 85 0 0 (mxrS t num L n i) (rdM 0 0 9 (mxrS t num L n (i + 1)) (mxrE t num L i) (mxrE t num L i) (mxrE t num L i) Z1 Z2 False False) := by
  refine @Eq.mpr _ (let q1 := decide (i = i);
 let q2 := i + 1;
 let q3 := decide (n = n);
 let q4 := inOf t;
 let q5 := q4.name;
 let q6 := q5 = q5;
 let q7 := q4.index;
 let q8 := decide (q7 = q7);
 let q9 := q4.tag;
 let q10 := q9 = q9;
 let q11 := q4.also;
 let q12 := q11 = q11;
 let q13 := q4.secret;
 let q14 := q13 = q13;
 let q15 := decide (num = num);
 let q16 := decide (q2 = q2);
 let q17 := [(1, 1), (0, 0), (2, 2)];
 let q18 := outRows (mOuts L);
 let q19 := (List.getD L (Int.toNat (↑i : Int)) made0).o;
 iteB (decide ((↑i : Int) < (↑n : Int))) (iteB (decide (0 ≤ (↑i : Int) ∧ (↑i : Int) < (↑n : Int))) (iteB q1 (iteB q1 (iteB q1 (iteB (decide (q2 * 160 ≤ 140737488355328)) (iteB (decide (IntKind.wrap IntKind.i64 ((↑i : Int) + 1) = (↑q2 : Int))) (iteB q3 (mRows L = mRows L ∧ iteB q3 (q6 ∧ iteB q8 (q10 ∧ q12 ∧ q14 ∧ iteB q15 (iteB q16 (iteB (decide (q2 ≤ q2)) (iteB q16 (RowsEq 0 ((3, 5) :: q17) q2 q18 (catF i q18 (rowC [AV.int IntKind.i64 q19.kind, AV.int IntKind.i64 q19.amount, AV.arr IntKind.u8 32 q19.owner, AV.arr IntKind.u8 32 q19.other, AV.arr IntKind.u8 32 q19.point, AV.arr IntKind.u8 32 q19.hash, AV.int IntKind.i64 q19.delay, AV.int IntKind.i64 q19.expiry] 0 132)) ∧ Z1) False) False) False) False) False) False) False) False) False) False) False) False) False) (q6 ∧ iteB q8 (q10 ∧ q12 ∧ q14 ∧ iteB q15 (iteB q1 (iteB (decide (i ≤ i)) (iteB q1 (RowsEq 0 ((3, 3) :: q17) i q18 q18 ∧ Z2) False) False) False) False) False)) (by kernel_rfl) ?_
  conv => zeta
  try simp only [need_eq]
  try simp only [nope_eq]
  try simp only [iteD_eq]
  try simp only [iteT_eq]
  try simp only [iteF_eq]
  try simp only [iteE_eq]
  try simp only [Int.toNat_natCast, Nat.zero_add, true_and, and_true, Nat.le_refl]
  refine ⟨fun hc => ?_, fun hc => ⟨outRowsEq fun _ _ => rfl, h2 (by omega)⟩⟩
  exact ⟨by omega, by omega, by rw [w64 (by omega)]; omega, outRowsEq fun j hj => orows_snoc hj, h1 (by omega)⟩
noncomputable def E85 (t : TermS) (num : Int) (L : List MadeS) (n : Nat) : Env2 := G0.withL 83 0 (goM 0 (mxS t num L n 0) (n < 1000) (endsJ 0 n 9 (fun i => i < n) (fun i => i = n) (fun _ => False) (fun _ => False) (fun i => mxE t num L i) (fun i => mxE t num L i) (fun i => mxE t num L i)))
theorem E85_ok (t : TermS) (num : Int) (L : List MadeS) (n : Nat) : (E85 t num L n).Ok :=
  Env2.withGoM (N := 20) (S := fun i => mxS t num L n i) G0_ok (by kernel_rfl) fun hC => ⟨rfl, fun i hi _ => mx_1 t num L n i _ _ hC hi (fun h => ⟨h, h⟩) (fun h => h)⟩
noncomputable def E85r (t : TermS) (num : Int) (L : List MadeS) (n : Nat) : Env2 := G0.withL 85 0 (goM 0 (mxrS t num L n 0) (n < 1000) (endsJ 0 n 9 (fun i => i < n) (fun i => i = n) (fun _ => False) (fun _ => False) (fun i => mxrE t num L i) (fun i => mxrE t num L i) (fun i => mxrE t num L i)))
theorem E85r_ok (t : TermS) (num : Int) (L : List MadeS) (n : Nat) : (E85r t num L n).Ok :=
  Env2.withGoM (N := 20) (S := fun i => mxrS t num L n i) G0_ok (by kernel_rfl) fun hC => ⟨rfl, fun i hi _ => mxr_1 t num L n i _ _ hC hi (fun h => ⟨h, h⟩) (fun h => h)⟩
set_option maxRecDepth 100000 in
set_option maxHeartbeats 0 in
theorem mx_f (t : TermS) (num : Int) (L : List MadeS) (n : Nat) (hn : n < 1000) (h0 : n ≠ 0) :
    evF (E85 t num L n) 20 83 [.agg t.c, .int .i64 num, .vrows 134 n (mRows L) n] ⟨0, []⟩ (outM 0 (.ret (.tuple [.agg [.int .i64 num, .nslice ⟨0, 0, 0, 0, 0⟩ 130 1 1, .nslice ⟨1, 0, 132, 0, 0⟩ 132 n n], .int .i64 0])) 2 [(0, .flat (InS.c (inOf t))), (1, .rows 132 n (outRows (mOuts L)))]) := by
  refine @Eq.mpr _ (let q1 := decide (n = n);
 let q2 := inOf t;
 let q3 := q2.name;
 let q4 := q2.index;
 let q5 := q2.tag;
 let q6 := q2.also;
 let q7 := q2.secret;
 let q8 := decide (num = num);
 let q9 := outRows (mOuts L);
 iteB ((↑n : Int) == 0) (iteB (decide (0 = num)) False False)
 (iteB (decide ((↑n : Int) = (↑n : Int)))
 (iteB q1
 (mRows L = mRows L ∧
 iteB q1
 (t.fund = q3 ∧
 iteB (decide (t.index = q4))
 (zero32 = q5 ∧
 zero32 = q6 ∧
 zero32 = q7 ∧
 iteB q8
 (n < 1000 ∧
 ∀ (i : Nat),
 let q19 := decide (i = n);
 i ≤ n → (∀ (j : Nat), j < i → (fun (i : Nat) => i < n) j) → (i = n → iteB q8 (iteB q19 (iteB (decide (n ≤ i)) (q3 = q3 ∧ iteB (decide (q4 = q4)) (q5 = q5 ∧ q6 = q6 ∧ q7 = q7 ∧ iteB q19 (RowsEq 0 [(1, 3), (0, 1)] n q9 q9 ∧ True) False) False) False) False) False) ∧ (False → False) ∧ (False → False))
 False)
 False)
 False)
 False)
 False)) (by kernel_rfl) ?_
  conv => zeta
  try simp only [need_eq]
  try simp only [nope_eq]
  try simp only [iteD_eq]
  try simp only [iteT_eq]
  try simp only [iteF_eq]
  try simp only [iteE_eq]
  try simp only [Int.toNat_natCast, Nat.zero_add, true_and, and_true, Nat.le_refl]
  refine ⟨fun h => ?_, fun _ => ⟨rfl, rfl, rfl, rfl, rfl, hn, fun i hi _ => ⟨fun he => ?_, fun h => h.elim, fun h => h.elim⟩⟩⟩
  · have : (n : Int) = 0 := by simpa using h
    omega
  · subst he
    exact ⟨rfl, Nat.le_refl _, rfl, outRowsEq fun _ _ => rfl⟩
set_option maxRecDepth 100000 in
set_option maxHeartbeats 0 in
theorem mx_0 (t : TermS) (num : Int)  :
    evF G0 20 83 [.agg t.c, .int .i64 num, .nilslice] ⟨0, []⟩ (outM 0 (.ret (.tuple [.agg txZ, .int .i64 180])) 0 []) := by
  refine @Eq.mpr _ (True) (by kernel_rfl) ?_
  trivial
set_option maxRecDepth 100000 in
set_option maxHeartbeats 0 in
theorem mxr_f (t : TermS) (num : Int) (L : List MadeS) (n : Nat) (hn : n < 1000) (h0 : n ≠ 0) :
    evF (E85r t num L n) 20 85 [.agg t.c, .int .i64 num, .vrows 134 n (mRows L) n] ⟨0, []⟩ (outM 0 (.ret (.tuple [.agg [.int .i64 num, .nslice ⟨0, 0, 0, 0, 0⟩ 130 1 1, .nslice ⟨1, 0, 132, 0, 0⟩ 132 n n], .int .i64 0])) 2 [(0, .flat (InS.c (inOf t))), (1, .rows 132 n (outRows (mOuts L)))]) := by
  refine @Eq.mpr _ (let q1 := decide (n = n);
 let q2 := inOf t;
 let q3 := q2.name;
 let q4 := q2.index;
 let q5 := q2.tag;
 let q6 := q2.also;
 let q7 := q2.secret;
 let q8 := decide (num = num);
 let q9 := outRows (mOuts L);
 iteB ((↑n : Int) == 0) (iteB (decide (0 = num)) False False)
 (iteB q1
 (mRows L = mRows L ∧
 iteB q1
 (t.fund = q3 ∧
 iteB (decide (t.index = q4))
 (zero32 = q5 ∧
 zero32 = q6 ∧
 zero32 = q7 ∧
 iteB q8
 (n < 1000 ∧
 ∀ (i : Nat),
 let q19 := decide (i = n);
 i ≤ n → (∀ (j : Nat), j < i → (fun (i : Nat) => i < n) j) → (i = n → iteB q8 (iteB q19 (iteB (decide (n ≤ i)) (q3 = q3 ∧ iteB (decide (q4 = q4)) (q5 = q5 ∧ q6 = q6 ∧ q7 = q7 ∧ iteB q19 (RowsEq 0 [(1, 3), (0, 1)] n q9 q9 ∧ True) False) False) False) False) False) ∧ (False → False) ∧ (False → False))
 False)
 False)
 False)
 False)) (by kernel_rfl) ?_
  conv => zeta
  try simp only [need_eq]
  try simp only [nope_eq]
  try simp only [iteD_eq]
  try simp only [iteT_eq]
  try simp only [iteF_eq]
  try simp only [iteE_eq]
  try simp only [Int.toNat_natCast, Nat.zero_add, true_and, and_true, Nat.le_refl]
  refine ⟨fun h => ?_, fun _ => ⟨rfl, rfl, rfl, rfl, rfl, hn, fun i hi _ => ⟨fun he => ?_, fun h => h.elim, fun h => h.elim⟩⟩⟩
  · have : (n : Int) = 0 := by simpa using h
    omega
  · subst he
    exact ⟨rfl, Nat.le_refl _, rfl, outRowsEq fun _ _ => rfl⟩
set_option maxRecDepth 100000 in
set_option maxHeartbeats 0 in
theorem mxr_0 (t : TermS) (num : Int)  :
    evF G0 20 85 [.agg t.c, .int .i64 num, .nilslice] ⟨0, []⟩ (outM 0 (.ret (.tuple [.agg txZ, .int .i64 180])) 0 []) := by
  refine @Eq.mpr _ (True) (by kernel_rfl) ?_
  trivial
def mxF : FSumm := fun args h K => viewL none h true 20 args fun a => match a with
  | [.agg [.arr .u8 32 fu, .int .i64 ix, .int .i64 ca, .int .i64 du, .int .i64 fe, .int .i64 de, .arr .u8 32 k0, .arr .u8 32 k1], .int .i64 num, .nilslice] => K (.ret (.tuple [.agg txZ, .int .i64 180])) h
  | [.agg [.arr .u8 32 fu, .int .i64 ix, .int .i64 ca, .int .i64 du, .int .i64 fe, .int .i64 de, .arr .u8 32 k0, .arr .u8 32 k1], .int .i64 num, .vrows 134 n f n'] => ∃ L, n' = n ∧ f = mRows L ∧ (n < 1000 ∧ n ≠ 0) ∧ K (.ret (.tuple [.agg [.int .i64 num, .nslice ⟨h.next, 0, 0, 0, 0⟩ 130 1 1, .nslice ⟨h.next + 1, 0, 132, 0, 0⟩ 132 n n], .int .i64 0])) ⟨h.next + 2, (h.next, .flat (InS.c ⟨fu, ix, 1, zero32, zero32, zero32⟩)) :: (h.next + 1, .rows 132 n (outRows (mOuts L))) :: h.bs⟩
  | _ => False
theorem mx_ok (args : List AV) (h : Heap) (K : KO) (hl : mxF args h K) : CallsA PP 83 args h K := by
  refine Pure.fsumm (d := 20) (viewL_weak _ _ _ _ _ hl fun a ha => ?_)
  split at ha
  · exact ⟨_, _, _, _, .evM G0_ok (mx_0 ⟨_, _, _, _, _, _, _, _⟩ _), rfl, trivial, ha⟩
  · obtain ⟨L, rfl, rfl, ⟨h1, h2⟩, hK⟩ := ha
    exact ⟨_, _, _, _, .evM (E85_ok _ _ _ _) (mx_f ⟨_, _, _, _, _, _, _, _⟩ _ L _ h1 h2), rfl, ⟨by decide, .flat _ rfl, by decide, .rows _ _ _ (fun i _ => (mOuts L i).plainC), trivial⟩, hK⟩
  · exact ha.elim
theorem mxr_ok (args : List AV) (h : Heap) (K : KO) (hl : mxF args h K) : CallsA PP 85 args h K := by
  refine Pure.fsumm (d := 20) (viewL_weak _ _ _ _ _ hl fun a ha => ?_)
  split at ha
  · exact ⟨_, _, _, _, .evM G0_ok (mxr_0 ⟨_, _, _, _, _, _, _, _⟩ _), rfl, trivial, ha⟩
  · obtain ⟨L, rfl, rfl, ⟨h1, h2⟩, hK⟩ := ha
    exact ⟨_, _, _, _, .evM (E85r_ok _ _ _ _) (mxr_f ⟨_, _, _, _, _, _, _, _⟩ _ L _ h1 h2), rfl, ⟨by decide, .flat _ rfl, by decide, .rows _ _ _ (fun i _ => (mOuts L i).plainC), trivial⟩, hK⟩
  · exact ha.elim
end Go.Tk
end
section
namespace Go.Tk
noncomputable def E86 (A : List Int → Int × Int) : Env2 := ((((G0.withP 40 termS).withP 93 (addmS A)).withP 90 inQ).withF 94 orF).withF 83 mxF
theorem E86_ok : (E86 addM).Ok := Env2.withF_ok (Env2.withF_ok (Env2.withP_ok (Env2.withP_ok (Env2.withP_ok G0_ok termS_ok) addmS_ok) inQ_ok) orF_ok) mx_ok
def clL (t : TermS) (a b fee : Int) : List MadeS :=
  (if t.dust ≤ a - fee then [⟨⟨1, a - fee, t.k0, zero32, zero32, zero32, 0, 0⟩, 0, 0⟩] else []) ++ (if t.dust ≤ b then [⟨⟨1, b, t.k1, zero32, zero32, zero32, 0, 0⟩, 1, 0⟩] else [])
def clB (A : List Int → Int × Int) (t : TermS) (a b fee : Int) : Bool := termB t && decide ((A [a, b]).2 = 0) && decide ((A [a, b]).1 = t.cap) && decide (0 ≤ fee ∧ fee ≤ a)
theorem rows_plain {f : Nat → List AV} {L : List MadeS} {n : Nat} (h : ∀ i, i < n → f i = mRows L i) : ∀ i, i < n → plainC (f i) = true := fun i hi => by rw [h i hi]; exact mRows_plain L i
theorem sortM_len {l : List MadeS} : (sortM l).length = l.length := by unfold sortM; rw [sortL_len]; simp
theorem one_row (x : MadeS) (i : Nat) (hi : i < 1) : catF 0 (fun _ => []) (rowC (MadeS.c x) 0 134) i = mRows [x] i := rows_snoc (O := []) rfl (fun k hk => absurd hk (Nat.not_lt_zero k)) hi
theorem two_rows (x y : MadeS) (i : Nat) (hi : i < 2) : catF 1 (catF 0 (fun _ => []) (rowC (MadeS.c x) 0 134)) (rowC (MadeS.c y) 0 134) i = mRows [x, y] i := rows_snoc (O := [x]) rfl (fun k hk => one_row x k hk) hi
theorem ite_ne {c : Bool} : (((if c = true then (0 : Int) else 2) != 0) = true ↔ c = false) ∧ (((if c = true then (0 : Int) else 2) != 0) = false ↔ c = true) := by cases c <;> simp
theorem clB_iff {A : List Int → Int × Int} {t : TermS} {a b fee : Int} : clB A t a b fee = true ↔ termB t = true ∧ (A [a, b]).2 = 0 ∧ (A [a, b]).1 = t.cap ∧ (0 ≤ fee ∧ fee ≤ a) := by
  unfold clB
  simp only [Bool.and_eq_true, decide_eq_true_eq, and_assoc]
set_option maxRecDepth 100000 in
set_option maxHeartbeats 0 in
theorem cl_1 (A : List Int → Int × Int) (t : TermS) (a b fee : Int) (ht : t.Ok) (hc : clB A t a b fee = false) :
    evF (E86 A) 20 34 [.agg t.c, .agg [.arr .i64 2 [a, b]], .int .i64 fee] ⟨0, []⟩ (outM 0 (.ret (.tuple [.agg txZ, .int .i64 2])) 0 []) := by
  refine @Eq.mpr _ (let q1 := t.fund;
 let q2 := t.index;
 let q3 := t.cap;
 let q4 := t.dust;
 let q5 := t.fee;
 let q6 := t.delay;
 let q7 := t.k0;
 let q8 := t.k1;
 let q9 := TermS.mk q1 q2 q3 q4 q5 q6 q7 q8;
 let q10 := A [a, b];
 let q11 := IntKind.wrap IntKind.i64 (a - fee);
 let q12 := decide (b ≥ q4);
 let q13 := AV.int IntKind.i64 (1 : Int);
 let q14 := AV.arr IntKind.u8 (32 : Nat) zero32;
 let q15 := AV.int IntKind.i64 (0 : Int);
 let q16 := [q15];
 let q17 := rowC (q13 :: AV.int IntKind.i64 q11 :: AV.arr IntKind.u8 (32 : Nat) q7 :: q14 :: q14 :: q14 :: q15 :: q15 :: q15 :: q16) (0 : Nat) (134 : Nat);
 let q18 := rowC (q13 :: AV.int IntKind.i64 b :: AV.arr IntKind.u8 (32 : Nat) q8 :: q14 :: q14 :: q14 :: q15 :: q15 :: q13 :: q16) (0 : Nat) (134 : Nat);
 let q19 := q1 = q1;
 let q20 := decide (q2 = q2);
 let q21 := decide (q3 = q3);
 let q22 := decide (q4 = q4);
 let q23 := decide (q5 = q5);
 let q24 := decide (q6 = q6);
 let q25 := q7 = q7;
 let q26 := q8 = q8;
 TermS.Ok q9 ∧
 iteB ((if termB q9 = true then (0 : Int) else (2 : Int)) != (0 : Int)) True
 (iteB (q10.snd != (0 : Int)) True
 (iteB (q10.fst != q3) True
 (iteB (!decide ((0 : Int) ≤ fee ∧ fee ≤ a)) True
 (iteB (decide (q11 ≥ q4))
 (iteB q12 ((∀ (i : Nat), i < (2 : Nat) → plainC (catF (1 : Nat) (catF (0 : Nat) (fun (x : Nat) => []) q17) q18 i) = true) ∧ ∃ (L : List MadeS), ((2 : Nat) = (2 : Nat) ∧ (2 : Nat) < (20 : Nat) ∧ List.length L = (2 : Nat)) ∧ (∀ (m : MadeS), List.Mem m L → MadeS.Ok m) ∧ (∀ (i : Nat), i < (2 : Nat) → catF (1 : Nat) (catF (0 : Nat) (fun (x : Nat) => []) q17) q18 i = mRows L i) ∧ q19 ∧ iteB q20 (iteB q21 (iteB q22 (iteB q23 (iteB q24 (q25 ∧ q26 ∧ (∀ (i : Nat), i < (2 : Nat) → true = true) ∧ ∃ (L_1 : List MadeS), (2 : Nat) = (2 : Nat) ∧ shiftZ (0 : Nat) (mRows (sortM L)) = mRows L_1 ∧ ((2 : Nat) < (1000 : Nat) ∧ (2 : Nat) ≠ (0 : Nat)) ∧ False) False) False) False) False) False)
 ((∀ (i : Nat), i < (1 : Nat) → plainC (catF (0 : Nat) (fun (x : Nat) => []) q17 i) = true) ∧ ∃ (L : List MadeS), ((1 : Nat) = (1 : Nat) ∧ (1 : Nat) < (20 : Nat) ∧ List.length L = (1 : Nat)) ∧ (∀ (m : MadeS), List.Mem m L → MadeS.Ok m) ∧ (∀ (i : Nat), i < (1 : Nat) → catF (0 : Nat) (fun (x : Nat) => []) q17 i = mRows L i) ∧ q19 ∧ iteB q20 (iteB q21 (iteB q22 (iteB q23 (iteB q24 (q25 ∧ q26 ∧ (∀ (i : Nat), i < (1 : Nat) → true = true) ∧ ∃ (L_1 : List MadeS), (1 : Nat) = (1 : Nat) ∧ shiftZ (0 : Nat) (mRows (sortM L)) = mRows L_1 ∧ ((1 : Nat) < (1000 : Nat) ∧ (1 : Nat) ≠ (0 : Nat)) ∧ False) False) False) False) False) False))
 (iteB q12 ((∀ (i : Nat), i < (1 : Nat) → plainC (catF (0 : Nat) (fun (x : Nat) => []) q18 i) = true) ∧ ∃ (L : List MadeS), ((1 : Nat) = (1 : Nat) ∧ (1 : Nat) < (20 : Nat) ∧ List.length L = (1 : Nat)) ∧ (∀ (m : MadeS), List.Mem m L → MadeS.Ok m) ∧ (∀ (i : Nat), i < (1 : Nat) → catF (0 : Nat) (fun (x : Nat) => []) q18 i = mRows L i) ∧ q19 ∧ iteB q20 (iteB q21 (iteB q22 (iteB q23 (iteB q24 (q25 ∧ q26 ∧ (∀ (i : Nat), i < (1 : Nat) → true = true) ∧ ∃ (L_1 : List MadeS), (1 : Nat) = (1 : Nat) ∧ shiftZ (0 : Nat) (mRows (sortM L)) = mRows L_1 ∧ ((1 : Nat) < (1000 : Nat) ∧ (1 : Nat) ≠ (0 : Nat)) ∧ False) False) False) False) False) False) (q19 ∧ iteB q20 (iteB q21 (iteB q22 (iteB q23 (iteB q24 (q25 ∧ q26 ∧ False) False) False) False) False) False))))))) (by kernel_rfl) ?_
  conv => zeta
  try simp only [need_eq]
  try simp only [nope_eq]
  try simp only [iteD_eq]
  try simp only [iteT_eq]
  try simp only [iteF_eq]
  try simp only [iteE_eq]
  try simp only [Int.toNat_natCast, Nat.zero_add, true_and, and_true, Nat.le_refl]
  have e0 : (TermS.mk t.fund t.index t.cap t.dust t.fee t.delay t.k0 t.k1) = t := rfl
  rw [e0]
  refine ⟨ht, fun _ => trivial, fun h1 => ⟨fun _ => trivial, fun h2 => ⟨fun _ => trivial, fun h3 => ⟨fun _ => trivial, fun h4 => ?_⟩⟩⟩⟩
  exfalso
  have : clB A t a b fee = true := clB_iff.2 ⟨ite_ne.2.1 h1, by simpa using h2, by simpa using h3, by simpa using h4⟩
  rw [this] at hc; cases hc
set_option maxRecDepth 100000 in
set_option maxHeartbeats 0 in
theorem cl_2 (A : List Int → Int × Int) (t : TermS) (a b fee : Int) (ht : t.Ok) (ha : a < 9223372036854775808) (hc : clB A t a b fee = true) (hL : clL t a b fee = []) :
    evF (E86 A) 20 34 [.agg t.c, .agg [.arr .i64 2 [a, b]], .int .i64 fee] ⟨0, []⟩ (outM 0 (.ret (.tuple [.agg txZ, .int .i64 180])) 0 []) := by
  refine @Eq.mpr _ (let q1 := t.fund;
 let q2 := t.index;
 let q3 := t.cap;
 let q4 := t.dust;
 let q5 := t.fee;
 let q6 := t.delay;
 let q7 := t.k0;
 let q8 := t.k1;
 let q9 := TermS.mk q1 q2 q3 q4 q5 q6 q7 q8;
 let q10 := A [a, b];
 let q11 := IntKind.wrap IntKind.i64 (a - fee);
 let q12 := decide (b ≥ q4);
 let q13 := AV.int IntKind.i64 (1 : Int);
 let q14 := AV.arr IntKind.u8 (32 : Nat) zero32;
 let q15 := AV.int IntKind.i64 (0 : Int);
 let q16 := [q15];
 let q17 := rowC (q13 :: AV.int IntKind.i64 q11 :: AV.arr IntKind.u8 (32 : Nat) q7 :: q14 :: q14 :: q14 :: q15 :: q15 :: q15 :: q16) (0 : Nat) (134 : Nat);
 let q18 := rowC (q13 :: AV.int IntKind.i64 b :: AV.arr IntKind.u8 (32 : Nat) q8 :: q14 :: q14 :: q14 :: q15 :: q15 :: q13 :: q16) (0 : Nat) (134 : Nat);
 let q19 := q1 = q1;
 let q20 := decide (q2 = q2);
 let q21 := decide (q3 = q3);
 let q22 := decide (q4 = q4);
 let q23 := decide (q5 = q5);
 let q24 := decide (q6 = q6);
 let q25 := q7 = q7;
 let q26 := q8 = q8;
 TermS.Ok q9 ∧
 iteB ((if termB q9 = true then (0 : Int) else (2 : Int)) != (0 : Int)) False
 (iteB (q10.snd != (0 : Int)) False
 (iteB (q10.fst != q3) False
 (iteB (!decide ((0 : Int) ≤ fee ∧ fee ≤ a)) False
 (iteB (decide (q11 ≥ q4))
 (iteB q12 ((∀ (i : Nat), i < (2 : Nat) → plainC (catF (1 : Nat) (catF (0 : Nat) (fun (x : Nat) => []) q17) q18 i) = true) ∧ ∃ (L : List MadeS), ((2 : Nat) = (2 : Nat) ∧ (2 : Nat) < (20 : Nat) ∧ List.length L = (2 : Nat)) ∧ (∀ (m : MadeS), List.Mem m L → MadeS.Ok m) ∧ (∀ (i : Nat), i < (2 : Nat) → catF (1 : Nat) (catF (0 : Nat) (fun (x : Nat) => []) q17) q18 i = mRows L i) ∧ q19 ∧ iteB q20 (iteB q21 (iteB q22 (iteB q23 (iteB q24 (q25 ∧ q26 ∧ (∀ (i : Nat), i < (2 : Nat) → true = true) ∧ ∃ (L_1 : List MadeS), (2 : Nat) = (2 : Nat) ∧ shiftZ (0 : Nat) (mRows (sortM L)) = mRows L_1 ∧ ((2 : Nat) < (1000 : Nat) ∧ (2 : Nat) ≠ (0 : Nat)) ∧ False) False) False) False) False) False)
 ((∀ (i : Nat), i < (1 : Nat) → plainC (catF (0 : Nat) (fun (x : Nat) => []) q17 i) = true) ∧ ∃ (L : List MadeS), ((1 : Nat) = (1 : Nat) ∧ (1 : Nat) < (20 : Nat) ∧ List.length L = (1 : Nat)) ∧ (∀ (m : MadeS), List.Mem m L → MadeS.Ok m) ∧ (∀ (i : Nat), i < (1 : Nat) → catF (0 : Nat) (fun (x : Nat) => []) q17 i = mRows L i) ∧ q19 ∧ iteB q20 (iteB q21 (iteB q22 (iteB q23 (iteB q24 (q25 ∧ q26 ∧ (∀ (i : Nat), i < (1 : Nat) → true = true) ∧ ∃ (L_1 : List MadeS), (1 : Nat) = (1 : Nat) ∧ shiftZ (0 : Nat) (mRows (sortM L)) = mRows L_1 ∧ ((1 : Nat) < (1000 : Nat) ∧ (1 : Nat) ≠ (0 : Nat)) ∧ False) False) False) False) False) False))
 (iteB q12 ((∀ (i : Nat), i < (1 : Nat) → plainC (catF (0 : Nat) (fun (x : Nat) => []) q18 i) = true) ∧ ∃ (L : List MadeS), ((1 : Nat) = (1 : Nat) ∧ (1 : Nat) < (20 : Nat) ∧ List.length L = (1 : Nat)) ∧ (∀ (m : MadeS), List.Mem m L → MadeS.Ok m) ∧ (∀ (i : Nat), i < (1 : Nat) → catF (0 : Nat) (fun (x : Nat) => []) q18 i = mRows L i) ∧ q19 ∧ iteB q20 (iteB q21 (iteB q22 (iteB q23 (iteB q24 (q25 ∧ q26 ∧ (∀ (i : Nat), i < (1 : Nat) → true = true) ∧ ∃ (L_1 : List MadeS), (1 : Nat) = (1 : Nat) ∧ shiftZ (0 : Nat) (mRows (sortM L)) = mRows L_1 ∧ ((1 : Nat) < (1000 : Nat) ∧ (1 : Nat) ≠ (0 : Nat)) ∧ False) False) False) False) False) False) (q19 ∧ iteB q20 (iteB q21 (iteB q22 (iteB q23 (iteB q24 (q25 ∧ q26 ∧ True) False) False) False) False) False))))))) (by kernel_rfl) ?_
  conv => zeta
  try simp only [need_eq]
  try simp only [nope_eq]
  try simp only [iteD_eq]
  try simp only [iteT_eq]
  try simp only [iteF_eq]
  try simp only [iteE_eq]
  try simp only [Int.toNat_natCast, Nat.zero_add, true_and, and_true, Nat.le_refl]
  have e0 : (TermS.mk t.fund t.index t.cap t.dust t.fee t.delay t.k0 t.k1) = t := rfl
  rw [e0]
  obtain ⟨c1, c2, c3, c4⟩ := clB_iff.1 hc
  have hw : IntKind.i64.wrap (a - fee) = a - fee := w64 (by omega)
  have hd : ¬ t.dust ≤ a - fee ∧ ¬ t.dust ≤ b := by
    unfold clL at hL
    rw [List.append_eq_nil_iff] at hL
    constructor
    · intro h; rw [if_pos h] at hL; simp at hL
    · intro h; rw [if_pos h] at hL; simp at hL
  refine ⟨ht, ite_ne.2.2 c1, by simp [c2], by simp [c3], by simp [c4], ?_⟩
  · rw [hw]
    exact ⟨fun h => absurd h hd.1, fun h => ⟨fun h => absurd h hd.2, fun _ => trivial⟩⟩
set_option maxRecDepth 100000 in
set_option maxHeartbeats 0 in
theorem cl_3 (A : List Int → Int × Int) (t : TermS) (a b fee : Int) (n : Nat) (L1 : List MadeS) (ht : t.Ok) (ha : a < 9223372036854775808) (hc : clB A t a b fee = true) (hn : n ≠ 0) (hL : L1 = sortM (clL t a b fee)) (hl : n = L1.length) :
    evF (E86 A) 20 34 [.agg t.c, .agg [.arr .i64 2 [a, b]], .int .i64 fee] ⟨0, []⟩ (outM 0 (.ret (.tuple [.agg [.int .i64 2147483647, .nslice ⟨0, 0, 0, 0, 0⟩ 130 1 1, .nslice ⟨1, 0, 132, 0, 0⟩ 132 n n], .int .i64 0])) 2 [(0, .flat (InS.c (inOf t))), (1, .rows 132 n (outRows (mOuts L1)))]) := by
  refine @Eq.mpr _ (let q1 := t.fund;
 let q2 := t.index;
 let q3 := t.cap;
 let q4 := t.dust;
 let q5 := t.fee;
 let q6 := t.delay;
 let q7 := t.k0;
 let q8 := t.k1;
 let q9 := TermS.mk q1 q2 q3 q4 q5 q6 q7 q8;
 let q10 := A [a, b];
 let q11 := IntKind.wrap IntKind.i64 (a - fee);
 let q12 := decide (b ≥ q4);
 let q13 := AV.int IntKind.i64 (1 : Int);
 let q14 := AV.arr IntKind.u8 (32 : Nat) zero32;
 let q15 := AV.int IntKind.i64 (0 : Int);
 let q16 := [q15];
 let q17 := rowC (q13 :: AV.int IntKind.i64 q11 :: AV.arr IntKind.u8 (32 : Nat) q7 :: q14 :: q14 :: q14 :: q15 :: q15 :: q15 :: q16) (0 : Nat) (134 : Nat);
 let q18 := rowC (q13 :: AV.int IntKind.i64 b :: AV.arr IntKind.u8 (32 : Nat) q8 :: q14 :: q14 :: q14 :: q15 :: q15 :: q13 :: q16) (0 : Nat) (134 : Nat);
 let q19 := q1 = q1;
 let q20 := decide (q2 = q2);
 let q21 := decide (q3 = q3);
 let q22 := decide (q4 = q4);
 let q23 := decide (q5 = q5);
 let q24 := decide (q6 = q6);
 let q25 := q7 = q7;
 let q26 := q8 = q8;
 let q27 := decide ((2 : Nat) = n);
 let q28 := InS.mk q1 q2 (1 : Int) zero32 zero32 zero32;
 let q29 := inOf t;
 let q30 := q28.name = q29.name;
 let q31 := decide (q28.index = q29.index);
 let q32 := q28.tag = q29.tag;
 let q33 := q28.also = q29.also;
 let q34 := q28.secret = q29.secret;
 let q35 := outRows (mOuts L1);
 let q36 := decide ((1 : Nat) = n);
 TermS.Ok q9 ∧
 iteB ((if termB q9 = true then (0 : Int) else (2 : Int)) != (0 : Int)) False
 (iteB (q10.snd != (0 : Int)) False
 (iteB (q10.fst != q3) False
 (iteB (!decide ((0 : Int) ≤ fee ∧ fee ≤ a)) False
 (iteB (decide (q11 ≥ q4))
 (iteB q12 ((∀ (i : Nat), i < (2 : Nat) → plainC (catF (1 : Nat) (catF (0 : Nat) (fun (x : Nat) => []) q17) q18 i) = true) ∧ ∃ (L : List MadeS), ((2 : Nat) = (2 : Nat) ∧ (2 : Nat) < (20 : Nat) ∧ List.length L = (2 : Nat)) ∧ (∀ (m : MadeS), List.Mem m L → MadeS.Ok m) ∧ (∀ (i : Nat), i < (2 : Nat) → catF (1 : Nat) (catF (0 : Nat) (fun (x : Nat) => []) q17) q18 i = mRows L i) ∧ q19 ∧ iteB q20 (iteB q21 (iteB q22 (iteB q23 (iteB q24 (q25 ∧ q26 ∧ (∀ (i : Nat), i < (2 : Nat) → true = true) ∧ ∃ (L_1 : List MadeS), (2 : Nat) = (2 : Nat) ∧ shiftZ (0 : Nat) (mRows (sortM L)) = mRows L_1 ∧ ((2 : Nat) < (1000 : Nat) ∧ (2 : Nat) ≠ (0 : Nat)) ∧ iteB q27 (iteB (decide (n ≤ (2 : Nat))) (q30 ∧ iteB q31 (q32 ∧ q33 ∧ q34 ∧ iteB q27 (RowsEq (0 : Nat) [((1 : Nat), (8 : Nat)), ((0 : Nat), (7 : Nat))] n q35 (outRows (mOuts L_1)) ∧ True) False) False) False) False) False) False) False) False) False)
 ((∀ (i : Nat), i < (1 : Nat) → plainC (catF (0 : Nat) (fun (x : Nat) => []) q17 i) = true) ∧ ∃ (L : List MadeS), ((1 : Nat) = (1 : Nat) ∧ (1 : Nat) < (20 : Nat) ∧ List.length L = (1 : Nat)) ∧ (∀ (m : MadeS), List.Mem m L → MadeS.Ok m) ∧ (∀ (i : Nat), i < (1 : Nat) → catF (0 : Nat) (fun (x : Nat) => []) q17 i = mRows L i) ∧ q19 ∧ iteB q20 (iteB q21 (iteB q22 (iteB q23 (iteB q24 (q25 ∧ q26 ∧ (∀ (i : Nat), i < (1 : Nat) → true = true) ∧ ∃ (L_1 : List MadeS), (1 : Nat) = (1 : Nat) ∧ shiftZ (0 : Nat) (mRows (sortM L)) = mRows L_1 ∧ ((1 : Nat) < (1000 : Nat) ∧ (1 : Nat) ≠ (0 : Nat)) ∧ iteB q36 (iteB (decide (n ≤ (1 : Nat))) (q30 ∧ iteB q31 (q32 ∧ q33 ∧ q34 ∧ iteB q36 (RowsEq (0 : Nat) [((1 : Nat), (6 : Nat)), ((0 : Nat), (5 : Nat))] n q35 (outRows (mOuts L_1)) ∧ True) False) False) False) False) False) False) False) False) False))
 (iteB q12 ((∀ (i : Nat), i < (1 : Nat) → plainC (catF (0 : Nat) (fun (x : Nat) => []) q18 i) = true) ∧ ∃ (L : List MadeS), ((1 : Nat) = (1 : Nat) ∧ (1 : Nat) < (20 : Nat) ∧ List.length L = (1 : Nat)) ∧ (∀ (m : MadeS), List.Mem m L → MadeS.Ok m) ∧ (∀ (i : Nat), i < (1 : Nat) → catF (0 : Nat) (fun (x : Nat) => []) q18 i = mRows L i) ∧ q19 ∧ iteB q20 (iteB q21 (iteB q22 (iteB q23 (iteB q24 (q25 ∧ q26 ∧ (∀ (i : Nat), i < (1 : Nat) → true = true) ∧ ∃ (L_1 : List MadeS), (1 : Nat) = (1 : Nat) ∧ shiftZ (0 : Nat) (mRows (sortM L)) = mRows L_1 ∧ ((1 : Nat) < (1000 : Nat) ∧ (1 : Nat) ≠ (0 : Nat)) ∧ iteB q36 (iteB (decide (n ≤ (1 : Nat))) (q30 ∧ iteB q31 (q32 ∧ q33 ∧ q34 ∧ iteB q36 (RowsEq (0 : Nat) [((1 : Nat), (6 : Nat)), ((0 : Nat), (5 : Nat))] n q35 (outRows (mOuts L_1)) ∧ True) False) False) False) False) False) False) False) False) False) (q19 ∧ iteB q20 (iteB q21 (iteB q22 (iteB q23 (iteB q24 (q25 ∧ q26 ∧ False) False) False) False) False) False))))))) (by kernel_rfl) ?_
  conv => zeta
  try simp only [need_eq]
  try simp only [nope_eq]
  try simp only [iteD_eq]
  try simp only [iteT_eq]
  try simp only [iteF_eq]
  try simp only [iteE_eq]
  try simp only [Int.toNat_natCast, Nat.zero_add, true_and, and_true, Nat.le_refl]
  have e0 : (TermS.mk t.fund t.index t.cap t.dust t.fee t.delay t.k0 t.k1) = t := rfl
  rw [e0]
  obtain ⟨c1, c2, c3, c4⟩ := clB_iff.1 hc
  have hw : IntKind.i64.wrap (a - fee) = a - fee := w64 (by omega)
  refine ⟨ht, ite_ne.2.2 c1, by simp [c2], by simp [c3], by simp [c4], ?_⟩
  · rw [hw]
    have z32 : zero32.length = 32 := rfl
    refine ⟨fun h1 => ⟨fun h2 => ?_, fun h2 => ?_⟩, fun h1 => ⟨fun h2 => ?_, fun h2 => ?_⟩⟩
    · have e : clL t a b fee = [⟨⟨1, a - fee, t.k0, zero32, zero32, zero32, 0, 0⟩, 0, 0⟩, ⟨⟨1, b, t.k1, zero32, zero32, zero32, 0, 0⟩, 1, 0⟩] := by unfold clL; rw [if_pos h1, if_pos h2]; rfl
      have hn2 : 2 = n := by rw [hl, hL, e, sortM_len]; rfl
      have H := two_rows ⟨⟨1, a - fee, t.k0, zero32, zero32, zero32, 0, 0⟩, 0, 0⟩ ⟨⟨1, b, t.k1, zero32, zero32, zero32, 0, 0⟩, 1, 0⟩
      refine ⟨rows_plain H, _, ⟨by decide, rfl⟩, fun m hm => ?_, H, fun _ _ => trivial, _, rfl, ⟨by decide, by decide⟩, hn2, by omega, rfl, rfl, rfl, rfl, rfl, hn2, outRowsEq fun _ _ => by rw [hL, e]; rfl⟩
      have hm : m ∈ [_, _] := hm
      rcases List.mem_cons.1 hm with rfl | hm
      · exact ⟨ht.k0, z32, z32, z32⟩
      · rcases List.mem_cons.1 hm with rfl | hm
        · exact ⟨ht.k1, z32, z32, z32⟩
        · cases hm
    · have e : clL t a b fee = [⟨⟨1, a - fee, t.k0, zero32, zero32, zero32, 0, 0⟩, 0, 0⟩] := by unfold clL; rw [if_pos h1, if_neg h2]; rfl
      have hn2 : 1 = n := by rw [hl, hL, e, sortM_len]; rfl
      have H := one_row ⟨⟨1, a - fee, t.k0, zero32, zero32, zero32, 0, 0⟩, 0, 0⟩
      refine ⟨rows_plain H, _, ⟨by decide, rfl⟩, fun m hm => ?_, H, fun _ _ => trivial, _, rfl, ⟨by decide, by decide⟩, hn2, by omega, rfl, rfl, rfl, rfl, rfl, hn2, outRowsEq fun _ _ => by rw [hL, e]; rfl⟩
      have hm : m ∈ [_] := hm
      rcases List.mem_cons.1 hm with rfl | hm
      · exact ⟨ht.k0, z32, z32, z32⟩
      · cases hm
    · have e : clL t a b fee = [⟨⟨1, b, t.k1, zero32, zero32, zero32, 0, 0⟩, 1, 0⟩] := by unfold clL; rw [if_neg h1, if_pos h2]; rfl
      have hn2 : 1 = n := by rw [hl, hL, e, sortM_len]; rfl
      have H := one_row ⟨⟨1, b, t.k1, zero32, zero32, zero32, 0, 0⟩, 1, 0⟩
      refine ⟨rows_plain H, _, ⟨by decide, rfl⟩, fun m hm => ?_, H, fun _ _ => trivial, _, rfl, ⟨by decide, by decide⟩, hn2, by omega, rfl, rfl, rfl, rfl, rfl, hn2, outRowsEq fun _ _ => by rw [hL, e]; rfl⟩
      have hm : m ∈ [_] := hm
      rcases List.mem_cons.1 hm with rfl | hm
      · exact ⟨ht.k1, z32, z32, z32⟩
      · cases hm
    · have e : clL t a b fee = [] := by unfold clL; rw [if_neg h1, if_neg h2]; rfl
      rw [e] at hL
      rw [hl, hL] at hn
      exact hn rfl
def clF (A : List Int → Int × Int) : FSumm := fun args h K => viewL none h true 20 args fun a => match a with
  | [.agg [.arr .u8 32 fu, .int .i64 ix, .int .i64 ca, .int .i64 du, .int .i64 fe, .int .i64 de, .arr .u8 32 k0, .arr .u8 32 k1], .agg [.arr .i64 2 ab], .int .i64 fee] =>
    (TermS.Ok ⟨fu, ix, ca, du, fe, de, k0, k1⟩) ∧ ∃ a b, ab = [a, b] ∧ a < 9223372036854775808 ∧ (clB A ⟨fu, ix, ca, du, fe, de, k0, k1⟩ a b fee = false → K (.ret (.tuple [.agg txZ, .int .i64 2])) h) ∧
    (clB A ⟨fu, ix, ca, du, fe, de, k0, k1⟩ a b fee = true → ((clL ⟨fu, ix, ca, du, fe, de, k0, k1⟩ a b fee).length = 0 → K (.ret (.tuple [.agg txZ, .int .i64 180])) h) ∧
      ∀ n L, L = sortM (clL ⟨fu, ix, ca, du, fe, de, k0, k1⟩ a b fee) → n = L.length → n ≠ 0 → K (.ret (.tuple [.agg [.int .i64 2147483647, .nslice ⟨h.next, 0, 0, 0, 0⟩ 130 1 1, .nslice ⟨h.next + 1, 0, 132, 0, 0⟩ 132 n n], .int .i64 0])) ⟨h.next + 2, (h.next, .flat (InS.c ⟨fu, ix, 1, zero32, zero32, zero32⟩)) :: (h.next + 1, .rows 132 n (outRows (mOuts L))) :: h.bs⟩)
  | _ => False
theorem clF_ok (args : List AV) (h : Heap) (K : KO) (hl : clF addM args h K) : CallsA PP 34 args h K := by
  refine Pure.fsumm (d := 20) (viewL_weak _ _ _ _ _ hl fun a ha => ?_)
  split at ha
  · rename_i fu ix ca du fe de k0 k1 ab fee
    obtain ⟨ht, a, b, rfl, ha, h1, h2⟩ := ha
    cases hc : clB addM ⟨fu, ix, ca, du, fe, de, k0, k1⟩ a b fee with
    | false => exact ⟨_, _, _, _, .evM E86_ok (cl_1 _ ⟨_, _, _, _, _, _, _, _⟩ a b fee ht hc), rfl, trivial, h1 hc⟩
    | true =>
      obtain ⟨h2, h3⟩ := h2 hc
      rcases Nat.eq_zero_or_pos (clL ⟨fu, ix, ca, du, fe, de, k0, k1⟩ a b fee).length with h0 | h0
      · exact ⟨_, _, _, _, .evM E86_ok (cl_2 _ ⟨_, _, _, _, _, _, _, _⟩ a b fee ht ha hc (List.length_eq_zero_iff.1 h0)), rfl, trivial, h2 h0⟩
      · have hn : (sortM (clL ⟨fu, ix, ca, du, fe, de, k0, k1⟩ a b fee)).length ≠ 0 := by rw [sortM_len]; omega
        exact ⟨_, _, _, _, .evM E86_ok (cl_3 _ ⟨_, _, _, _, _, _, _, _⟩ a b fee _ _ ht ha hc hn rfl rfl), rfl, ⟨by decide, .flat _ rfl, by decide, .rows _ _ _ (fun i _ => (mOuts _ i).plainC), trivial⟩, h3 _ _ rfl rfl hn⟩
  · exact ha.elim
noncomputable def E86r : Env2 := ((G0.withP 39 termRS).withF 95 puF).withF 85 mxF
theorem E86r_ok : E86r.Ok := Env2.withF_ok (Env2.withF_ok (Env2.withP_ok G0_ok termRS_ok) puF_ok) mxr_ok
theorem bytes_zero : Bytes zero32 := ⟨fun i => by
  have h : zero32 = List.replicate 32 0 := rfl
  rw [h, List.getD_eq_getElem?_getD, List.getElem?_replicate]
  split <;> simp⟩
theorem allIn2 {m a b : Int} : allIn m [a, b] = true ↔ (0 ≤ a ∧ a ≤ m) ∧ (0 ≤ b ∧ b ≤ m) := by
  unfold allIn overAt
  simp [List.range_succ, overI]
theorem clB_plain {t : TermS} {a b fee : Int} : clB addM t a b fee = true ↔ termB t = true ∧ ((0 ≤ a ∧ a ≤ 1125899906842624) ∧ (0 ≤ b ∧ b ≤ 1125899906842624)) ∧ a + b = t.cap ∧ (0 ≤ fee ∧ fee ≤ a) := by
  rw [clB_iff]
  unfold addM
  by_cases h : allIn 1125899906842624 [a, b] = true
  · rw [if_pos h]
    have h' := allIn2.1 h
    by_cases h2 : [a, b].sum ≤ 1125899906842624
    · rw [if_pos h2]; simp; omega
    · rw [if_neg h2]
      simp at h2
      constructor
      · rintro ⟨_, h3, _⟩; simp at h3
      · rintro ⟨h3, _, h4, _⟩
        unfold termB at h3
        simp only [Bool.and_eq_true, decide_eq_true_eq] at h3
        omega
  · rw [if_neg h]
    constructor
    · rintro ⟨_, h3, _⟩; simp at h3
    · rintro ⟨_, h3, _⟩; exact absurd (allIn2.2 h3) h
set_option maxRecDepth 100000 in
set_option maxHeartbeats 0 in
theorem clr_1 (t : TermS) (a b fee : Int) (ht : t.Ok) (hc : clB addM t a b fee = false) :
    evF E86r 20 35 [.agg t.c, .agg [.arr .i64 2 [a, b]], .int .i64 fee] ⟨0, []⟩ (outM 0 (.ret (.tuple [.agg txZ, .int .i64 2])) 0 []) := by
  refine @Eq.mpr _ (let q1 := t.dust;
 let q2 := TermS.mk t.fund t.index t.cap q1 t.fee t.delay t.k0 t.k1;
 let q3 := IntKind.wrap IntKind.i64 (a - fee);
 let q4 := AV.int IntKind.i64 1;
 let q5 := AV.arr IntKind.u8 32 zero32;
 let q6 := AV.int IntKind.i64 0;
 let q7 := [q6];
 let q8 := decide (b ≥ q1);
 TermS.Ok q2 ∧
 iteB (!termB q2) True
 (iteB (decide (a ≥ 0))
 (iteB (!decide (a ≤ 1125899906842624)) True
 (iteB (decide (b ≥ 0))
 (iteB (!decide (b ≤ 1125899906842624)) True
 (iteB (IntKind.wrap IntKind.i64 (a + b) != t.cap) True
 (iteB (decide (fee < 0)) True
 (iteB (decide (fee > a)) True
 (iteB (decide (q3 ≥ q1))
 (∃ (m : MadeS),
 let q17 := shiftZ 0 (mRows (insL ltM m []));
 q4 :: AV.int IntKind.i64 q3 :: AV.arr IntKind.u8 32 t.k0 :: q5 :: q5 :: q5 :: q6 :: q6 :: q6 :: q7 = MadeS.c m ∧ iteB q8 ((∀ (i : Nat), i < 1 → true = true) ∧ ∃ (L : List MadeS), ∃ (m : MadeS), (1 : Nat) = 1 ∧ q17 = mRows L ∧ q4 :: AV.int IntKind.i64 b :: AV.arr IntKind.u8 32 t.k1 :: q5 :: q5 :: q5 :: q6 :: q6 :: q4 :: q7 = MadeS.c m ∧ PuOk 1 L m ∧ (∀ (i : Nat), i < 2 → true = true) ∧ ∃ (L_1 : List MadeS), (2 : Nat) = 2 ∧ shiftZ 0 (mRows (insL ltM m L)) = mRows L_1 ∧ ((2 : Nat) < 1000 ∧ (2 : Nat) ≠ 0) ∧ False) ((∀ (i : Nat), i < 1 → true = true) ∧ ∃ (L : List MadeS), (1 : Nat) = 1 ∧ q17 = mRows L ∧ ((1 : Nat) < 1000 ∧ (1 : Nat) ≠ 0) ∧ False))
 (iteB q8 (∃ (m : MadeS), q4 :: AV.int IntKind.i64 b :: AV.arr IntKind.u8 32 t.k1 :: q5 :: q5 :: q5 :: q6 :: q6 :: q4 :: q7 = MadeS.c m ∧ (∀ (i : Nat), i < 1 → true = true) ∧ ∃ (L : List MadeS), (1 : Nat) = 1 ∧ shiftZ 0 (mRows (insL ltM m [])) = mRows L ∧ ((1 : Nat) < 1000 ∧ (1 : Nat) ≠ 0) ∧ False) False))))))
 True))
 True)) (by kernel_rfl) ?_
  conv => zeta
  try simp only [need_eq]
  try simp only [nope_eq]
  try simp only [iteD_eq]
  try simp only [iteT_eq]
  try simp only [iteF_eq]
  try simp only [iteE_eq]
  try simp only [Int.toNat_natCast, Nat.zero_add, true_and, and_true, Nat.le_refl]
  have e0 : (TermS.mk t.fund t.index t.cap t.dust t.fee t.delay t.k0 t.k1) = t := rfl
  rw [e0]
  have hx : ¬ (termB t = true ∧ ((0 ≤ a ∧ a ≤ 1125899906842624) ∧ (0 ≤ b ∧ b ≤ 1125899906842624)) ∧ a + b = t.cap ∧ (0 ≤ fee ∧ fee ≤ a)) := fun h => by rw [clB_plain.2 h] at hc; cases hc
  refine ⟨ht, fun _ => trivial, fun g1 => ⟨fun g2 => ⟨fun _ => trivial, fun g3 => ⟨fun g4 => ⟨fun _ => trivial, fun g5 => ⟨fun _ => trivial, fun g6 => ⟨fun _ => trivial, fun g7 => ⟨fun _ => trivial, fun g8 => ?_⟩⟩⟩⟩, ?_⟩⟩, ?_⟩⟩
  · exfalso
    have k1 : termB t = true := by simpa using g1
    have k3 : a ≤ 1125899906842624 := by simpa using g3
    have k5 : b ≤ 1125899906842624 := by simpa using g5
    rw [w64 (x := a + b) (by omega)] at g6
    have k6 : a + b = t.cap := by simpa using g6
    exact hx ⟨k1, ⟨⟨g2, k3⟩, g4, k5⟩, k6, by omega⟩
  all_goals intros; trivial
set_option maxRecDepth 100000 in
set_option maxHeartbeats 0 in
theorem clr_2 (t : TermS) (a b fee : Int) (ht : t.Ok) (hc : clB addM t a b fee = true) (hL : clL t a b fee = []) :
    evF E86r 20 35 [.agg t.c, .agg [.arr .i64 2 [a, b]], .int .i64 fee] ⟨0, []⟩ (outM 0 (.ret (.tuple [.agg txZ, .int .i64 180])) 0 []) := by
  refine @Eq.mpr _ (let q1 := t.dust;
 let q2 := TermS.mk t.fund t.index t.cap q1 t.fee t.delay t.k0 t.k1;
 let q3 := IntKind.wrap IntKind.i64 (a - fee);
 let q4 := AV.int IntKind.i64 1;
 let q5 := AV.arr IntKind.u8 32 zero32;
 let q6 := AV.int IntKind.i64 0;
 let q7 := [q6];
 let q8 := decide (b ≥ q1);
 TermS.Ok q2 ∧
 iteB (!termB q2) False
 (iteB (decide (a ≥ 0))
 (iteB (!decide (a ≤ 1125899906842624)) False
 (iteB (decide (b ≥ 0))
 (iteB (!decide (b ≤ 1125899906842624)) False
 (iteB (IntKind.wrap IntKind.i64 (a + b) != t.cap) False
 (iteB (decide (fee < 0)) False
 (iteB (decide (fee > a)) False
 (iteB (decide (q3 ≥ q1))
 (∃ (m : MadeS),
 let q17 := shiftZ 0 (mRows (insL ltM m []));
 q4 :: AV.int IntKind.i64 q3 :: AV.arr IntKind.u8 32 t.k0 :: q5 :: q5 :: q5 :: q6 :: q6 :: q6 :: q7 = MadeS.c m ∧ iteB q8 ((∀ (i : Nat), i < 1 → true = true) ∧ ∃ (L : List MadeS), ∃ (m : MadeS), (1 : Nat) = 1 ∧ q17 = mRows L ∧ q4 :: AV.int IntKind.i64 b :: AV.arr IntKind.u8 32 t.k1 :: q5 :: q5 :: q5 :: q6 :: q6 :: q4 :: q7 = MadeS.c m ∧ PuOk 1 L m ∧ (∀ (i : Nat), i < 2 → true = true) ∧ ∃ (L_1 : List MadeS), (2 : Nat) = 2 ∧ shiftZ 0 (mRows (insL ltM m L)) = mRows L_1 ∧ ((2 : Nat) < 1000 ∧ (2 : Nat) ≠ 0) ∧ False) ((∀ (i : Nat), i < 1 → true = true) ∧ ∃ (L : List MadeS), (1 : Nat) = 1 ∧ q17 = mRows L ∧ ((1 : Nat) < 1000 ∧ (1 : Nat) ≠ 0) ∧ False))
 (iteB q8 (∃ (m : MadeS), q4 :: AV.int IntKind.i64 b :: AV.arr IntKind.u8 32 t.k1 :: q5 :: q5 :: q5 :: q6 :: q6 :: q4 :: q7 = MadeS.c m ∧ (∀ (i : Nat), i < 1 → true = true) ∧ ∃ (L : List MadeS), (1 : Nat) = 1 ∧ shiftZ 0 (mRows (insL ltM m [])) = mRows L ∧ ((1 : Nat) < 1000 ∧ (1 : Nat) ≠ 0) ∧ False) True))))))
 False))
 False)) (by kernel_rfl) ?_
  conv => zeta
  try simp only [need_eq]
  try simp only [nope_eq]
  try simp only [iteD_eq]
  try simp only [iteT_eq]
  try simp only [iteF_eq]
  try simp only [iteE_eq]
  try simp only [Int.toNat_natCast, Nat.zero_add, true_and, and_true, Nat.le_refl]
  have e0 : (TermS.mk t.fund t.index t.cap t.dust t.fee t.delay t.k0 t.k1) = t := rfl
  rw [e0]
  obtain ⟨c1, ⟨c2, c3⟩, c4, c5⟩ := clB_plain.1 hc
  have w1 : IntKind.i64.wrap (a - fee) = a - fee := w64 (by omega)
  have w2 : IntKind.i64.wrap (a + b) = a + b := w64 (by omega)
  refine ⟨ht, by rw [c1]; rfl, by omega, by simp; omega, by omega, by simp; omega, by rw [w2]; simp [c4], by omega, by omega, ?_⟩
  rw [w1]
  have hd : ¬ t.dust ≤ a - fee ∧ ¬ t.dust ≤ b := by
    unfold clL at hL
    rw [List.append_eq_nil_iff] at hL
    constructor
    · intro h; rw [if_pos h] at hL; simp at hL
    · intro h; rw [if_pos h] at hL; simp at hL
  exact ⟨fun h => absurd h hd.1, fun _ => ⟨fun h => absurd h hd.2, fun _ => trivial⟩⟩
set_option maxRecDepth 100000 in
set_option maxHeartbeats 0 in
theorem clr_3 (t : TermS) (a b fee : Int) (n : Nat) (L1 : List MadeS) (ht : t.Ok) (hc : clB addM t a b fee = true) (hn : n ≠ 0) (hL : L1 = sortM (clL t a b fee)) (hl : n = L1.length) :
    evF E86r 20 35 [.agg t.c, .agg [.arr .i64 2 [a, b]], .int .i64 fee] ⟨0, []⟩ (outM 0 (.ret (.tuple [.agg [.int .i64 2147483647, .nslice ⟨0, 0, 0, 0, 0⟩ 130 1 1, .nslice ⟨1, 0, 132, 0, 0⟩ 132 n n], .int .i64 0])) 2 [(0, .flat (InS.c (inOf t))), (1, .rows 132 n (outRows (mOuts L1)))]) := by
  refine @Eq.mpr _ (let q1 := t.dust;
 let q2 := TermS.mk t.fund t.index t.cap q1 t.fee t.delay t.k0 t.k1;
 let q3 := IntKind.wrap IntKind.i64 (a - fee);
 let q4 := AV.int IntKind.i64 1;
 let q5 := AV.arr IntKind.u8 32 zero32;
 let q6 := AV.int IntKind.i64 0;
 let q7 := [q6];
 let q8 := decide (b ≥ q1);
 let q9 := decide (2 = n);
 let q10 := InS.mk t.fund t.index 1 zero32 zero32 zero32;
 let q11 := inOf t;
 let q12 := q10.name = q11.name;
 let q13 := decide (q10.index = q11.index);
 let q14 := q10.tag = q11.tag;
 let q15 := q10.also = q11.also;
 let q16 := q10.secret = q11.secret;
 let q17 := outRows (mOuts L1);
 let q18 := decide (1 = n);
 TermS.Ok q2 ∧
 iteB (!termB q2) False
 (iteB (decide (a ≥ 0))
 (iteB (!decide (a ≤ 1125899906842624)) False
 (iteB (decide (b ≥ 0))
 (iteB (!decide (b ≤ 1125899906842624)) False
 (iteB (IntKind.wrap IntKind.i64 (a + b) != t.cap) False
 (iteB (decide (fee < 0)) False
 (iteB (decide (fee > a)) False
 (iteB (decide (q3 ≥ q1))
 (∃ (m : MadeS),
 let q37 := shiftZ 0 (mRows (insL ltM m []));
 q4 :: AV.int IntKind.i64 q3 :: AV.arr IntKind.u8 32 t.k0 :: q5 :: q5 :: q5 :: q6 :: q6 :: q6 :: q7 = MadeS.c m ∧ iteB q8 ((∀ (i : Nat), i < 1 → true = true) ∧ ∃ (L : List MadeS), ∃ (m : MadeS), (1 : Nat) = 1 ∧ q37 = mRows L ∧ q4 :: AV.int IntKind.i64 b :: AV.arr IntKind.u8 32 t.k1 :: q5 :: q5 :: q5 :: q6 :: q6 :: q4 :: q7 = MadeS.c m ∧ PuOk 1 L m ∧ (∀ (i : Nat), i < 2 → true = true) ∧ ∃ (L_1 : List MadeS), (2 : Nat) = 2 ∧ shiftZ 0 (mRows (insL ltM m L)) = mRows L_1 ∧ ((2 : Nat) < 1000 ∧ (2 : Nat) ≠ 0) ∧ iteB q9 (iteB (decide (n ≤ 2)) (q12 ∧ iteB q13 (q14 ∧ q15 ∧ q16 ∧ iteB q9 (RowsEq 0 [(1, 6), (0, 5)] n q17 (outRows (mOuts L_1)) ∧ True) False) False) False) False) ((∀ (i : Nat), i < 1 → true = true) ∧ ∃ (L : List MadeS), (1 : Nat) = 1 ∧ q37 = mRows L ∧ ((1 : Nat) < 1000 ∧ (1 : Nat) ≠ 0) ∧ iteB q18 (iteB (decide (n ≤ 1)) (q12 ∧ iteB q13 (q14 ∧ q15 ∧ q16 ∧ iteB q18 (RowsEq 0 [(1, 5), (0, 4)] n q17 (outRows (mOuts L)) ∧ True) False) False) False) False))
 (iteB q8 (∃ (m : MadeS), q4 :: AV.int IntKind.i64 b :: AV.arr IntKind.u8 32 t.k1 :: q5 :: q5 :: q5 :: q6 :: q6 :: q4 :: q7 = MadeS.c m ∧ (∀ (i : Nat), i < 1 → true = true) ∧ ∃ (L : List MadeS), (1 : Nat) = 1 ∧ shiftZ 0 (mRows (insL ltM m [])) = mRows L ∧ ((1 : Nat) < 1000 ∧ (1 : Nat) ≠ 0) ∧ iteB q18 (iteB (decide (n ≤ 1)) (q12 ∧ iteB q13 (q14 ∧ q15 ∧ q16 ∧ iteB q18 (RowsEq 0 [(1, 5), (0, 4)] n q17 (outRows (mOuts L)) ∧ True) False) False) False) False) False))))))
 False))
 False)) (by kernel_rfl) ?_
  conv => zeta
  try simp only [need_eq]
  try simp only [nope_eq]
  try simp only [iteD_eq]
  try simp only [iteT_eq]
  try simp only [iteF_eq]
  try simp only [iteE_eq]
  try simp only [Int.toNat_natCast, Nat.zero_add, true_and, and_true, Nat.le_refl]
  have e0 : (TermS.mk t.fund t.index t.cap t.dust t.fee t.delay t.k0 t.k1) = t := rfl
  rw [e0]
  obtain ⟨c1, ⟨c2, c3⟩, c4, c5⟩ := clB_plain.1 hc
  have w1 : IntKind.i64.wrap (a - fee) = a - fee := w64 (by omega)
  have w2 : IntKind.i64.wrap (a + b) = a + b := w64 (by omega)
  refine ⟨ht, by rw [c1]; rfl, by omega, by simp; omega, by omega, by simp; omega, by rw [w2]; simp [c4], by omega, by omega, ?_⟩
  rw [w1]
  have z32 : zero32.length = 32 := rfl
  have oA : (⟨⟨1, a - fee, t.k0, zero32, zero32, zero32, 0, 0⟩, 0, 0⟩ : MadeS).Okb := ⟨⟨ht.k0, z32, z32, z32⟩, bytes_zero⟩
  have oB : (⟨⟨1, b, t.k1, zero32, zero32, zero32, 0, 0⟩, 1, 0⟩ : MadeS).Okb := ⟨⟨ht.k1, z32, z32, z32⟩, bytes_zero⟩
  refine ⟨fun h1 => ⟨⟨⟨1, a - fee, t.k0, zero32, zero32, zero32, 0, 0⟩, 0, 0⟩, rfl, fun h2 => ?_, fun h2 => ?_⟩, fun h1 => ?_⟩
  · have e : L1 = insL ltM ⟨⟨1, b, t.k1, zero32, zero32, zero32, 0, 0⟩, 1, 0⟩ (insL ltM ⟨⟨1, a - fee, t.k0, zero32, zero32, zero32, 0, 0⟩, 0, 0⟩ []) := by rw [hL]; unfold clL; rw [if_pos h1, if_pos h2]; rfl
    have hn2 : 2 = n := by rw [hl, e, insL_len]; rfl
    exact ⟨fun _ _ => trivial, _, ⟨⟨1, b, t.k1, zero32, zero32, zero32, 0, 0⟩, 1, 0⟩, rfl, rfl, ⟨by decide, rfl, oB, fun x hx => by rcases List.mem_cons.1 hx with rfl | hx; exact oA; cases hx⟩, fun _ _ => trivial, _, rfl, ⟨by decide, by decide⟩, hn2, by omega, rfl, rfl, rfl, rfl, rfl, hn2, outRowsEq fun _ _ => by rw [e]; rfl⟩
  · have e : L1 = insL ltM ⟨⟨1, a - fee, t.k0, zero32, zero32, zero32, 0, 0⟩, 0, 0⟩ [] := by rw [hL]; unfold clL; rw [if_pos h1, if_neg h2]; rfl
    have hn2 : 1 = n := by rw [hl, e]; rfl
    exact ⟨fun _ _ => trivial, _, rfl, ⟨by decide, by decide⟩, hn2, by omega, rfl, rfl, rfl, rfl, rfl, hn2, outRowsEq fun _ _ => by rw [e]; rfl⟩
  · by_cases h2 : b ≥ t.dust
    rotate_left
    · have e : L1 = [] := by rw [hL]; unfold clL; rw [if_neg h1, if_neg h2]; rfl
      rw [hl, e] at hn
      exact absurd rfl hn
    have e : L1 = insL ltM ⟨⟨1, b, t.k1, zero32, zero32, zero32, 0, 0⟩, 1, 0⟩ [] := by rw [hL]; unfold clL; rw [if_neg h1, if_pos h2]; rfl
    have hn2 : 1 = n := by rw [hl, e]; rfl
    exact ⟨h2, ⟨⟨1, b, t.k1, zero32, zero32, zero32, 0, 0⟩, 1, 0⟩, rfl, fun _ _ => trivial, _, rfl, ⟨by decide, by decide⟩, hn2, by omega, rfl, rfl, rfl, rfl, rfl, hn2, outRowsEq fun _ _ => by rw [e]; rfl⟩
theorem clrF_ok (args : List AV) (h : Heap) (K : KO) (hl : clF addM args h K) : CallsA PP 35 args h K := by
  refine Pure.fsumm (d := 20) (viewL_weak _ _ _ _ _ hl fun a ha => ?_)
  split at ha
  · rename_i fu ix ca du fe de k0 k1 ab fee
    obtain ⟨ht, a, b, rfl, ha, h1, h2⟩ := ha
    cases hc : clB addM ⟨fu, ix, ca, du, fe, de, k0, k1⟩ a b fee with
    | false => exact ⟨_, _, _, _, .evM E86r_ok (clr_1 ⟨_, _, _, _, _, _, _, _⟩ a b fee ht hc), rfl, trivial, h1 hc⟩
    | true =>
      obtain ⟨h2, h3⟩ := h2 hc
      rcases Nat.eq_zero_or_pos (clL ⟨fu, ix, ca, du, fe, de, k0, k1⟩ a b fee).length with h0 | h0
      · exact ⟨_, _, _, _, .evM E86r_ok (clr_2 ⟨_, _, _, _, _, _, _, _⟩ a b fee ht hc (List.length_eq_zero_iff.1 h0)), rfl, trivial, h2 h0⟩
      · have hn : (sortM (clL ⟨fu, ix, ca, du, fe, de, k0, k1⟩ a b fee)).length ≠ 0 := by rw [sortM_len]; omega
        exact ⟨_, _, _, _, .evM E86r_ok (clr_3 ⟨_, _, _, _, _, _, _, _⟩ a b fee _ _ ht hc hn rfl rfl), rfl, ⟨by decide, .flat _ rfl, by decide, .rows _ _ _ (fun i _ => (mOuts _ i).plainC), trivial⟩, h3 _ _ rfl rfl hn⟩
  · exact ha.elim
end Go.Tk
end
section
namespace Go.Tk
noncomputable def E87 (A : List Int → Int × Int) (F : TxS → TxS → Bool) : Env2 := (((G0.withP 25 works8S).withP 33 (sametS F)).withF 34 (clF A)).withF 35 (clF A)
theorem sameT_refl (t : TxS) : sameT t t = true := by
  unfold sameT eqiL eqoL
  simp [eqIn, eqOut]
def tx0 : TxS := ⟨0, 0, fun _ => inZ, 0, fun _ => outZ⟩
theorem tx0_ok : tx0.Ok := ⟨by decide, by decide, fun i hi => absurd hi (Nat.not_lt_zero i), fun i hi => absurd hi (Nat.not_lt_zero i)⟩
def txM (t : TermS) (num : Int) (L : List MadeS) : TxS := ⟨num, 1, fun _ => inOf t, L.length, mOuts L⟩
theorem txM_ok {t : TermS} {num : Int} {L : List MadeS} (hf : t.fund.length = 32) (hl : L.length < 1000) (hok : ∀ m ∈ L, m.Ok) : (txM t num L).Ok :=
  ⟨by show 1 < _; decide, by show L.length < _; omega, fun _ _ => ⟨hf, rfl, rfl, rfl⟩, fun i hi => by
    have := made_at hok (show i < L.length from hi)
    exact ⟨this.owner, this.other, this.point, this.hash⟩⟩
theorem clL_ok {t : TermS} {a b fee : Int} (ht : t.Ok) : ∀ m ∈ sortM (clL t a b fee), m.Ok := fun m hm => by
  have hm := (sortL_mem (acc := [])).1 hm
  have z32 : zero32.length = 32 := rfl
  rcases hm with hm | hm
  · cases hm
  · unfold clL at hm
    rw [List.mem_append] at hm
    rcases hm with hm | hm
    · split at hm
      · rw [List.mem_singleton] at hm; subst hm; exact ⟨ht.k0, z32, z32, z32⟩
      · cases hm
    · split at hm
      · rw [List.mem_singleton] at hm; subst hm; exact ⟨ht.k1, z32, z32, z32⟩
      · cases hm
theorem clL_len {t : TermS} {a b fee : Int} : (sortM (clL t a b fee)).length ≤ 2 := by
  rw [sortM_len]
  unfold clL
  rw [List.length_append]
  split <;> split <;> simp
set_option maxRecDepth 100000 in
set_option maxHeartbeats 0 in
theorem cc_1 (A : List Int → Int × Int) (F : TxS → TxS → Bool) (t : TermS) (a b fee : Int) (ht : t.Ok) (hf : t.fund.length = 32) (hF : F = sameT) (ha : a < 9223372036854775808) :
    evF (E87 A F) 20 6 [.agg t.c, .int .i64 a, .int .i64 b, .int .i64 fee] ⟨0, []⟩ (outV (fun v => v = .bool true)) := by
  refine @Eq.mpr _ (let q1 := TermS.mk t.fund t.index t.cap t.dust t.fee t.delay t.k0 t.k1;
 let q2 := TermS.Ok q1;
 let q3 := AV.bool true;
 let q4 := AV.bool false = q3;
 let q5 := ∃ (a : TxS), ∃ (b : TxS), (a.num = 0 ∧ a.N = 0 ∧ a.M = 0) ∧ (b.num = 0 ∧ b.N = 0 ∧ b.M = 0) ∧ (TxS.Ok a ∧ TxS.Ok b) ∧ iteB (F a b) (q3 = q3) q4;
 let q6 := ∃ (a : TxS), ∃ (b : TxS), (a.num = 0 ∧ a.N = 0 ∧ a.M = 0) ∧ (b.num = 0 ∧ b.N = 0 ∧ b.M = 0) ∧ (TxS.Ok a ∧ TxS.Ok b) ∧ iteB (F a b) q4 q4;
 let q7 := InS.mk t.fund t.index 1 zero32 zero32 zero32;
 q2 ∧
 ∃ (a_1 : Int),
 let q15 := [a, b];
 ∃ (b_1 : Int),
 let q17 := clB A q1 a_1 b_1 fee;
 let q18 := clL q1 a_1 b_1 fee;
 q15 = [a_1, b_1] ∧
 a_1 < 9223372036854775808 ∧
 (q17 = false →
 q2 ∧
 ∃ (a_3 : Int),
 ∃ (b_2 : Int),
 let q21 := clB A q1 a_3 b_2 fee;
 let q22 := clL q1 a_3 b_2 fee;
 q15 = [a_3, b_2] ∧
 a_3 < 9223372036854775808 ∧
 (q21 = false → q5) ∧
 (q21 = true →
 (List.length q22 = 0 → q6) ∧
 ∀ (n : Nat) (L : List MadeS),
 L = sortM q22 →
 n = List.length L →
 n ≠ 0 →
 iteB (decide (0 + n ≤ n))
 ((∀ (i : Nat), i < n → true = true) ∧
 ∃ (a : TxS),
 ∃ (b : TxS),
 (a.num = 0 ∧ a.N = 0 ∧ a.M = 0) ∧
 (b.num = 2147483647 ∧
 (((1 : Nat) = 1 ∧ b.N = 1) ∧ ∀ (i : Nat), i < 1 → rowC [AV.arr IntKind.u8 32 q7.name, AV.int IntKind.i64 q7.index, AV.int IntKind.i64 q7.way, AV.arr IntKind.u8 32 q7.tag, AV.arr IntKind.u8 32 q7.also, AV.arr IntKind.u8 32 q7.secret] 0 130 i = InS.c (b.ins i)) ∧
 (n = n ∧ b.M = n) ∧
 ∀ (i : Nat),
 let q25 := mOuts L i;
 i < n → [AV.int IntKind.i64 q25.kind, AV.int IntKind.i64 q25.amount, AV.arr IntKind.u8 32 q25.owner, AV.arr IntKind.u8 32 q25.other, AV.arr IntKind.u8 32 q25.point, AV.arr IntKind.u8 32 q25.hash, AV.int IntKind.i64 q25.delay, AV.int IntKind.i64 q25.expiry] = OutS.c (b.outs i)) ∧
 (TxS.Ok a ∧ TxS.Ok b) ∧ iteB (F a b) q4 q4)
 False)) ∧
 (q17 = true →
 (List.length q18 = 0 →
 q2 ∧
 ∃ (a_4 : Int),
 ∃ (b_2 : Int),
 let q21 := clB A q1 a_4 b_2 fee;
 let q22 := clL q1 a_4 b_2 fee;
 q15 = [a_4, b_2] ∧
 a_4 < 9223372036854775808 ∧
 (q21 = false → q6) ∧
 (q21 = true →
 (List.length q22 = 0 → q5) ∧
 ∀ (n : Nat) (L : List MadeS),
 L = sortM q22 →
 n = List.length L →
 n ≠ 0 →
 iteB (decide (0 + n ≤ n))
 ((∀ (i : Nat), i < n → true = true) ∧
 ∃ (a : TxS),
 ∃ (b : TxS),
 (a.num = 0 ∧ a.N = 0 ∧ a.M = 0) ∧
 (b.num = 2147483647 ∧
 (((1 : Nat) = 1 ∧ b.N = 1) ∧ ∀ (i : Nat), i < 1 → rowC [AV.arr IntKind.u8 32 q7.name, AV.int IntKind.i64 q7.index, AV.int IntKind.i64 q7.way, AV.arr IntKind.u8 32 q7.tag, AV.arr IntKind.u8 32 q7.also, AV.arr IntKind.u8 32 q7.secret] 0 130 i = InS.c (b.ins i)) ∧
 (n = n ∧ b.M = n) ∧
 ∀ (i : Nat),
 let q25 := mOuts L i;
 i < n → [AV.int IntKind.i64 q25.kind, AV.int IntKind.i64 q25.amount, AV.arr IntKind.u8 32 q25.owner, AV.arr IntKind.u8 32 q25.other, AV.arr IntKind.u8 32 q25.point, AV.arr IntKind.u8 32 q25.hash, AV.int IntKind.i64 q25.delay, AV.int IntKind.i64 q25.expiry] = OutS.c (b.outs i)) ∧
 (TxS.Ok a ∧ TxS.Ok b) ∧ iteB (F a b) q4 q4)
 False)) ∧
 ∀ (n : Nat),
 let q21 := decide (0 + n ≤ n);
 ∀ (L : List MadeS),
 let q23 := iteB q21 ((∀ (i : Nat), i < n → true = true) ∧ ∃ (a : TxS), ∃ (b : TxS), (a.num = 2147483647 ∧ (((1 : Nat) = 1 ∧ a.N = 1) ∧ ∀ (i : Nat), i < 1 → rowC [AV.arr IntKind.u8 32 q7.name, AV.int IntKind.i64 q7.index, AV.int IntKind.i64 q7.way, AV.arr IntKind.u8 32 q7.tag, AV.arr IntKind.u8 32 q7.also, AV.arr IntKind.u8 32 q7.secret] 0 130 i = InS.c (a.ins i)) ∧ (n = n ∧ a.M = n) ∧ ∀ (i : Nat), i < n → [AV.int IntKind.i64 (mOuts L i).kind, AV.int IntKind.i64 (mOuts L i).amount, AV.arr IntKind.u8 32 (mOuts L i).owner, AV.arr IntKind.u8 32 (mOuts L i).other, AV.arr IntKind.u8 32 (mOuts L i).point, AV.arr IntKind.u8 32 (mOuts L i).hash, AV.int IntKind.i64 (mOuts L i).delay, AV.int IntKind.i64 (mOuts L i).expiry] = OutS.c (a.outs i)) ∧ (b.num = 0 ∧ b.N = 0 ∧ b.M = 0) ∧ (TxS.Ok a ∧ TxS.Ok b) ∧ iteB (F a b) q4 q4) False;
 L = sortM q18 →
 n = List.length L →
 n ≠ 0 →
 q2 ∧
 ∃ (a_6 : Int),
 ∃ (b_2 : Int),
 let q25 := clB A q1 a_6 b_2 fee;
 let q26 := clL q1 a_6 b_2 fee;
 q15 = [a_6, b_2] ∧
 a_6 < 9223372036854775808 ∧
 (q25 = false → q23) ∧
 (q25 = true →
 (List.length q26 = 0 → q23) ∧
 ∀ (n_1 : Nat) (L_1 : List MadeS),
 L_1 = sortM q26 →
 n_1 = List.length L_1 →
 n_1 ≠ 0 →
 iteB q21
 ((∀ (i : Nat), i < n → true = true) ∧
 iteB (decide (0 + n_1 ≤ n_1))
 ((∀ (i : Nat), i < n_1 → true = true) ∧
 ∃ (a : TxS),
 ∃ (b : TxS),
 (a.num = 2147483647 ∧
 (((1 : Nat) = 1 ∧ a.N = 1) ∧ ∀ (i : Nat), i < 1 → rowC [AV.arr IntKind.u8 32 q7.name, AV.int IntKind.i64 q7.index, AV.int IntKind.i64 q7.way, AV.arr IntKind.u8 32 q7.tag, AV.arr IntKind.u8 32 q7.also, AV.arr IntKind.u8 32 q7.secret] 0 130 i = InS.c (a.ins i)) ∧
 (n = n ∧ a.M = n) ∧
 ∀ (i : Nat),
 let q29 := mOuts L i;
 i < n → [AV.int IntKind.i64 q29.kind, AV.int IntKind.i64 q29.amount, AV.arr IntKind.u8 32 q29.owner, AV.arr IntKind.u8 32 q29.other, AV.arr IntKind.u8 32 q29.point, AV.arr IntKind.u8 32 q29.hash, AV.int IntKind.i64 q29.delay, AV.int IntKind.i64 q29.expiry] = OutS.c (a.outs i)) ∧
 (b.num = 2147483647 ∧
 (((1 : Nat) = 1 ∧ b.N = 1) ∧ ∀ (i : Nat), i < 1 → rowC [AV.arr IntKind.u8 32 q7.name, AV.int IntKind.i64 q7.index, AV.int IntKind.i64 q7.way, AV.arr IntKind.u8 32 q7.tag, AV.arr IntKind.u8 32 q7.also, AV.arr IntKind.u8 32 q7.secret] 0 130 i = InS.c (b.ins i)) ∧
 (n_1 = n_1 ∧ b.M = n_1) ∧
 ∀ (i : Nat),
 let q29 := mOuts L_1 i;
 i < n_1 → [AV.int IntKind.i64 q29.kind, AV.int IntKind.i64 q29.amount, AV.arr IntKind.u8 32 q29.owner, AV.arr IntKind.u8 32 q29.other, AV.arr IntKind.u8 32 q29.point, AV.arr IntKind.u8 32 q29.hash, AV.int IntKind.i64 q29.delay, AV.int IntKind.i64 q29.expiry] = OutS.c (b.outs i)) ∧
 (TxS.Ok a ∧ TxS.Ok b) ∧ iteB (F a b) (q3 = q3) q4)
 False)
 False))) (by kernel_rfl) ?_
  conv => zeta
  try simp only [need_eq]
  try simp only [nope_eq]
  try simp only [iteD_eq]
  try simp only [iteT_eq]
  try simp only [iteF_eq]
  try simp only [iteE_eq]
  try simp only [Int.toNat_natCast, Nat.zero_add, true_and, and_true, Nat.le_refl]
  have e0 : (TermS.mk t.fund t.index t.cap t.dust t.fee t.delay t.k0 t.k1) = t := rfl
  rw [e0]
  subst hF
  refine ⟨ht, a, b, rfl, ha, fun hc => ⟨ht, a, b, rfl, ha, fun _ => ?_, fun hc' => ?_⟩, fun hc => ⟨fun h0 => ⟨ht, a, b, rfl, ha, fun hc' => ?_, fun _ => ⟨fun _ => ?_, fun n L hL hn h1 => ?_⟩⟩, fun n L hL hn h1 => ⟨ht, a, b, rfl, ha, fun hc' => ?_, fun _ => ⟨fun h0 => ?_, fun n1 L1 hL1 hn1 h2 => ?_⟩⟩⟩⟩
  · exact ⟨tx0, tx0, ⟨rfl, rfl, rfl⟩, ⟨rfl, rfl, rfl⟩, ⟨tx0_ok, tx0_ok⟩, fun _ => trivial, fun h => by rw [sameT_refl] at h; cases h⟩
  · rw [hc] at hc'; cases hc'
  · rw [hc] at hc'; cases hc'
  · exact ⟨tx0, tx0, ⟨rfl, rfl, rfl⟩, ⟨rfl, rfl, rfl⟩, ⟨tx0_ok, tx0_ok⟩, fun _ => trivial, fun h => by rw [sameT_refl] at h; cases h⟩
  · exfalso; rw [hn, hL, sortM_len] at h1; exact h1 h0
  · rw [hc] at hc'; cases hc'
  · exfalso; rw [hn, hL, sortM_len] at h1; exact h1 h0
  · subst hL hL1 hn hn1
    have hl := clL_len (t := t) (a := a) (b := b) (fee := fee)
    have ho := txM_ok (num := 2147483647) (L := sortM (clL t a b fee)) hf (by omega) (clL_ok ht)
    refine ⟨fun _ _ => trivial, fun _ _ => trivial, txM t 2147483647 (sortM (clL t a b fee)), txM t 2147483647 (sortM (clL t a b fee)), ⟨rfl, ⟨rfl, fun i hi => ?_⟩, rfl, fun _ _ => rfl⟩, ⟨rfl, ⟨rfl, fun i hi => ?_⟩, rfl, fun _ _ => rfl⟩, ⟨ho, ho⟩, fun _ => trivial, fun h => by rw [sameT_refl] at h; cases h⟩
    all_goals
      have e : i = 0 := by omega
      subst e
      rfl
end Go.Tk
end
section
namespace Go.Tk
def hsh (n : Int) : List Int := n :: List.replicate 31 0
def t8 : TermS := ⟨zero32, 0, 1000, 10, 5, 3, hsh 1, hsh 2⟩
def sh8A : List AV := [.int .i64 0, .int .i64 0, .arr .u8 32 zero32, .arr .i64 2 [600, 400], .nilslice]
def mA1 : MadeS := ⟨⟨3, 595, hsh 1, zero32, zero32, zero32, 3, 0⟩, 0, -1⟩
def mA2 : MadeS := ⟨⟨1, 400, hsh 2, zero32, zero32, zero32, 0, 0⟩, 0, -2⟩
def mB1 : MadeS := ⟨⟨3, 380, hsh 2, zero32, zero32, zero32, 3, 0⟩, 0, -1⟩
def mB2 : MadeS := ⟨⟨1, 595, hsh 1, zero32, zero32, zero32, 0, 0⟩, 0, -2⟩
def mB3 : MadeS := ⟨⟨5, 20, hsh 2, hsh 1, zero32, zero32, 3, 9⟩, 0, 0⟩
def mC1 : MadeS := ⟨⟨1, 400, hsh 2, zero32, zero32, zero32, 0, 0⟩, 1, 0⟩
def or8F : FSumm := fun args h K => match args with
  | [.nslice p esz len lo] => match h.get p.blk with
    | some (.rows 134 m f) => match Nat.beq m len && Nat.beq p.row 0 && Nat.beq p.sz 134 && Nat.beq p.off 0 && Nat.beq p.inn 0 && Nat.beq esz 134 with
      | true => match m with
        | 1 => (∀ i, i < 1 → f i = mRows [mC1] i) ∧ K (.ret (.nslice ⟨p.blk, 0, 134, 0, 0⟩ 134 1 lo)) ⟨h.next, (p.blk, .rows 134 1 (mRows [mC1])) :: delB h.bs p.blk⟩
        | 2 => (∀ i, i < 2 → f i = mRows [mA1, mA2] i) ∧ K (.ret (.nslice ⟨p.blk, 0, 134, 0, 0⟩ 134 2 lo)) ⟨h.next, (p.blk, .rows 134 2 (mRows [mA2, mA1])) :: delB h.bs p.blk⟩
        | 3 => (∀ i, i < 3 → f i = mRows [mB1, mB2, mB3] i) ∧ K (.ret (.nslice ⟨p.blk, 0, 134, 0, 0⟩ 134 3 lo)) ⟨h.next, (p.blk, .rows 134 3 (mRows [mB3, mB1, mB2])) :: delB h.bs p.blk⟩
        | _ => False
      | false => False
    | _ => False
  | _ => False
theorem or8_ok (args : List AV) (h : Heap) (K : KO) (hl : or8F args h K) : CallsA PP 94 args h K := by
  unfold or8F at hl
  split at hl
  · rename_i p esz len lo
    split at hl
    · rename_i m f hg
      split at hl
      · rename_i hb
        simp only [Bool.and_eq_true] at hb
        obtain ⟨⟨⟨⟨⟨h1, h2⟩, h3⟩, h4⟩, h5⟩, h6⟩ := hb
        have g1 := Nat.eq_of_beq_eq_true h1
        clear h1
        have g2 := Nat.eq_of_beq_eq_true h2
        clear h2
        have g3 := Nat.eq_of_beq_eq_true h3
        clear h3
        have g4 := Nat.eq_of_beq_eq_true h4
        clear h4
        have g5 := Nat.eq_of_beq_eq_true h5
        clear h5
        have g6 := Nat.eq_of_beq_eq_true h6
        clear h6
        obtain ⟨blk, row, sz, off, inn⟩ := p
        simp only at g2 g3 g4 g5 hg
        subst g1 g2 g3 g4 g5 g6
        have key : ∀ (L L' : List MadeS), L.length = m → m < 20 → (∀ x ∈ L, x.Ok) → sortM L = L' → (∀ i, i < m → f i = mRows L i) → K (.ret (.nslice ⟨blk, 0, 134, 0, 0⟩ 134 m lo)) ⟨h.next, (blk, .rows 134 m (mRows L')) :: delB h.bs blk⟩ → CallsA PP 94 [.nslice ⟨blk, 0, 134, 0, 0⟩ 134 m lo] h K := by
          intro L L' k1 k2 k3 k4 k5 hK
          subst k4
          refine orF_ok _ _ _ ?_
          unfold orF
          refine frA_one hg (fun i hi => by rw [k5 i hi]; exact mRows_plain L i) ?_
          exact ⟨L, ⟨rfl, k2, k1⟩, k3, k5, hK⟩
        have z32 : zero32.length = 32 := rfl
        have l1 : (hsh 1).length = 32 := rfl
        have l2 : (hsh 2).length = 32 := rfl
        split at hl
        · exact key [mC1] [mC1] rfl (by decide) (fun x hx => by simp only [List.mem_cons, List.not_mem_nil, or_false] at hx; subst hx; exact ⟨l2, z32, z32, z32⟩) rfl hl.1 hl.2
        · exact key [mA1, mA2] [mA2, mA1] rfl (by decide) (fun x hx => by simp only [List.mem_cons, List.not_mem_nil, or_false] at hx; rcases hx with rfl | rfl <;> exact ⟨by assumption, z32, z32, z32⟩) rfl hl.1 hl.2
        · exact key [mB1, mB2, mB3] [mB3, mB1, mB2] rfl (by decide) (fun x hx => by simp only [List.mem_cons, List.not_mem_nil, or_false] at hx; rcases hx with rfl | rfl | rfl <;> exact ⟨by assumption, by assumption, z32, z32⟩) rfl hl.1 hl.2
        · exact hl.elim
      · exact hl.elim
    · exact hl.elim
  · exact hl.elim
noncomputable def E88 : Env2 := G0.withF 94 or8F
theorem E88_ok : E88.Ok := Env2.withF_ok G0_ok or8_ok
set_option maxRecDepth 100000 in
set_option maxHeartbeats 0 in
theorem coA (X : Nat) (hx : X = X) :
    evF E88 20 26 [.agg t8.c, .agg sh8A] ⟨0, []⟩ (outM 0 (.ret (.tuple [.agg [.int .i64 0, .nslice ⟨0, 0, 0, 0, 0⟩ 130 1 1, .nslice ⟨1, 0, 132, 0, 0⟩ 132 2 2], .int .i64 0])) 2 [(0, .flat (InS.c (inOf t8))), (1, .rows 132 2 (outRows (fun i => match i with | 0 => ⟨1, 400, hsh 2, zero32, zero32, zero32, 0, 0⟩ | _ => ⟨3, 595, hsh 1, zero32, zero32, zero32, 3, 0⟩)))]) := by
  refine @Eq.mpr _ (let q1 := t8.k1;
 let q2 := q1 = q1;
 let q3 := t8.k0;
 let q4 := q3 = q3;
 let q5 := AV.arr IntKind.u8 32 zero32;
 let q6 := AV.int IntKind.i64 0;
 let q7 := t8.fund;
 let q8 := inOf t8;
 let q9 := mA2.o;
 let q10 := mA1.o;
 q2 ∧
 q4 ∧
 q2 ∧
 q4 ∧
 q2 ∧
 q4 ∧
 q2 ∧
 q4 ∧
 q2 ∧
 q4 ∧
 q2 ∧
 q2 ∧
 q2 ∧
 (∀ (i : Nat), i < 2 → catF 1 (catF 0 (fun (x : Nat) => []) (rowC [AV.int IntKind.i64 3, AV.int IntKind.i64 595, AV.arr IntKind.u8 32 q3, q5, q5, q5, AV.int IntKind.i64 t8.delay, q6, q6, AV.int IntKind.i64 (-1)] 0 134)) (rowC [AV.int IntKind.i64 1, AV.int IntKind.i64 400, AV.arr IntKind.u8 32 q1, q5, q5, q5, q6, q6, q6, AV.int IntKind.i64 (-2)] 0 134) i = mRows [mA1, mA2] i) ∧
 q7 = q7 ∧
 q4 ∧
 q2 ∧
 q7 = q8.name ∧
 zero32 = q8.tag ∧
 zero32 = q8.also ∧
 zero32 = q8.secret ∧
 RowsEq 0 [(1, 34), (0, 27)] 2
 (outRows fun (i : Nat) =>
 match i with
 | 0 => OutS.mk 1 400 (hsh 2) zero32 zero32 zero32 0 0
 | x => OutS.mk 3 595 (hsh 1) zero32 zero32 zero32 3 0)
 (catF 1 (catF 0 (fun (x : Nat) => []) (rowC [AV.int IntKind.i64 q9.kind, AV.int IntKind.i64 q9.amount, AV.arr IntKind.u8 32 q9.owner, AV.arr IntKind.u8 32 q9.other, AV.arr IntKind.u8 32 q9.point, AV.arr IntKind.u8 32 q9.hash, AV.int IntKind.i64 q9.delay, AV.int IntKind.i64 q9.expiry] 0 132)) (rowC [AV.int IntKind.i64 q10.kind, AV.int IntKind.i64 q10.amount, AV.arr IntKind.u8 32 q10.owner, AV.arr IntKind.u8 32 q10.other, AV.arr IntKind.u8 32 q10.point, AV.arr IntKind.u8 32 q10.hash, AV.int IntKind.i64 q10.delay, AV.int IntKind.i64 q10.expiry] 0 132)) ∧
 True) (by kernel_rfl) ?_
  conv => zeta
  have e3 : ∀ i : Nat, i < 3 → i = 0 ∨ i = 1 ∨ i = 2 := by omega
  and_intros
  all_goals first
    | rfl
    | trivial
    | (intro i hi; exact one_row mC1 i hi)
    | (intro i hi; exact two_rows mA1 mA2 i hi)
    | (intro i hi; exact rows_snoc (O := [mB1, mB2]) (x := mB3) (c := 2) rfl (fun k hk => two_rows mB1 mB2 k hk) hi)
    | (refine outRowsEq fun i hi => ?_; rcases e3 i (by omega) with rfl | rfl | rfl <;> first | rfl | omega)
def pdC : List AV := [.int .i64 0, .int .i64 0, .int .i64 20, .arr .u8 32 zero32, .int .i64 9]
def sh8B : List AV := [.int .i64 0, .int .i64 1, .arr .u8 32 zero32, .arr .i64 2 [600, 380], .vrows 36 1 (rowC pdC 0 36) 1]
def sh8C : List AV := [.int .i64 0, .int .i64 0, .arr .u8 32 zero32, .arr .i64 2 [600, 401], .nilslice]
set_option maxRecDepth 100000 in
set_option maxHeartbeats 0 in
theorem coB (X : Nat) (hx : X = X) :
    evF E88 20 26 [.agg t8.c, .agg sh8B] ⟨0, []⟩ (outM 0 (.ret (.tuple [.agg [.int .i64 0, .nslice ⟨0, 0, 0, 0, 0⟩ 130 1 1, .nslice ⟨1, 0, 132, 0, 0⟩ 132 3 3], .int .i64 0])) 2 [(0, .flat (InS.c (inOf t8))), (1, .rows 132 3 (outRows (fun i => match i with | 0 => ⟨5, 20, hsh 2, hsh 1, zero32, zero32, 3, 9⟩ | 1 => ⟨3, 380, hsh 2, zero32, zero32, zero32, 3, 0⟩ | _ => ⟨1, 595, hsh 1, zero32, zero32, zero32, 0, 0⟩)))]) := by
  refine @Eq.mpr _ (let q1 := t8.k1;
 let q2 := q1 = q1;
 let q3 := t8.k0;
 let q4 := q3 = q3;
 let q5 := AV.arr IntKind.u8 32 q1;
 let q6 := AV.arr IntKind.u8 32 zero32;
 let q7 := AV.int IntKind.i64 t8.delay;
 let q8 := AV.int IntKind.i64 0;
 let q9 := AV.arr IntKind.u8 32 q3;
 let q10 := t8.fund;
 let q11 := inOf t8;
 let q12 := mB3.o;
 let q13 := mB1.o;
 let q14 := mB2.o;
 q2 ∧
 q4 ∧
 q2 ∧
 q4 ∧
 q2 ∧
 q4 ∧
 q2 ∧
 q4 ∧
 q2 ∧
 q4 ∧
 q4 ∧
 q4 ∧
 q4 ∧
 (∀ (i : Nat), i < 3 → catF 2 (catF 1 (catF 0 (fun (x : Nat) => []) (rowC [AV.int IntKind.i64 3, AV.int IntKind.i64 380, q5, q6, q6, q6, q7, q8, q8, AV.int IntKind.i64 (-1)] 0 134)) (rowC [AV.int IntKind.i64 1, AV.int IntKind.i64 595, q9, q6, q6, q6, q8, q8, q8, AV.int IntKind.i64 (-2)] 0 134)) (rowC [AV.int IntKind.i64 5, AV.int IntKind.i64 20, q5, q9, q6, q6, q7, AV.int IntKind.i64 9, q8, q8] 0 134) i = mRows [mB1, mB2, mB3] i) ∧
 q10 = q10 ∧
 q4 ∧
 q2 ∧
 q10 = q11.name ∧
 zero32 = q11.tag ∧
 zero32 = q11.also ∧
 zero32 = q11.secret ∧
 RowsEq 0 [(1, 47), (0, 37)] 3
 (outRows fun (i : Nat) =>
 match i with
 | 0 => OutS.mk 5 20 (hsh 2) (hsh 1) zero32 zero32 3 9
 | 1 => OutS.mk 3 380 (hsh 2) zero32 zero32 zero32 3 0
 | x => OutS.mk 1 595 (hsh 1) zero32 zero32 zero32 0 0)
 (catF 2 (catF 1 (catF 0 (fun (x : Nat) => []) (rowC [AV.int IntKind.i64 q12.kind, AV.int IntKind.i64 q12.amount, AV.arr IntKind.u8 32 q12.owner, AV.arr IntKind.u8 32 q12.other, AV.arr IntKind.u8 32 q12.point, AV.arr IntKind.u8 32 q12.hash, AV.int IntKind.i64 q12.delay, AV.int IntKind.i64 q12.expiry] 0 132)) (rowC [AV.int IntKind.i64 q13.kind, AV.int IntKind.i64 q13.amount, AV.arr IntKind.u8 32 q13.owner, AV.arr IntKind.u8 32 q13.other, AV.arr IntKind.u8 32 q13.point, AV.arr IntKind.u8 32 q13.hash, AV.int IntKind.i64 q13.delay, AV.int IntKind.i64 q13.expiry] 0 132)) (rowC [AV.int IntKind.i64 q14.kind, AV.int IntKind.i64 q14.amount, AV.arr IntKind.u8 32 q14.owner, AV.arr IntKind.u8 32 q14.other, AV.arr IntKind.u8 32 q14.point, AV.arr IntKind.u8 32 q14.hash, AV.int IntKind.i64 q14.delay, AV.int IntKind.i64 q14.expiry] 0 132)) ∧
 True) (by kernel_rfl) ?_
  conv => zeta
  have e3 : ∀ i : Nat, i < 3 → i = 0 ∨ i = 1 ∨ i = 2 := by omega
  and_intros
  all_goals first
    | rfl
    | trivial
    | (intro i hi; exact one_row mC1 i hi)
    | (intro i hi; exact two_rows mA1 mA2 i hi)
    | (intro i hi; exact rows_snoc (O := [mB1, mB2]) (x := mB3) (c := 2) rfl (fun k hk => two_rows mB1 mB2 k hk) hi)
    | (refine outRowsEq fun i hi => ?_; rcases e3 i (by omega) with rfl | rfl | rfl <;> first | rfl | omega)
set_option maxRecDepth 100000 in
set_option maxHeartbeats 0 in
theorem coC (X : Nat) (hx : X = X) :
    evF E88 20 26 [.agg t8.c, .agg sh8C] ⟨0, []⟩ (outM 0 (.ret (.tuple [.agg txZ, .int .i64 2])) 0 []) := by
  refine @Eq.mpr _ (let q1 := t8.k1 = t8.k1;
 let q2 := t8.k0 = t8.k0;
 q1 ∧ q2 ∧ q1 ∧ q2 ∧ q1 ∧ q2 ∧ q1 ∧ q2 ∧ q1 ∧ q2 ∧ True) (by kernel_rfl) ?_
  conv => zeta
  have e3 : ∀ i : Nat, i < 3 → i = 0 ∨ i = 1 ∨ i = 2 := by omega
  and_intros
  all_goals first
    | rfl
    | trivial
    | (intro i hi; exact one_row mC1 i hi)
    | (intro i hi; exact two_rows mA1 mA2 i hi)
    | (intro i hi; exact rows_snoc (O := [mB1, mB2]) (x := mB3) (c := 2) rfl (fun k hk => two_rows mB1 mB2 k hk) hi)
    | (refine outRowsEq fun i hi => ?_; rcases e3 i (by omega) with rfl | rfl | rfl <;> first | rfl | omega)
set_option maxRecDepth 100000 in
set_option maxHeartbeats 0 in
theorem plB (X : Nat) (hx : X = X) :
    evF E88 20 27 [.agg t8.c, .agg sh8B] ⟨0, []⟩ (outM 0 (.ret (.tuple [.nslice ⟨0, 0, 0, 0, 0⟩ 1 1 1, .int .i64 1, .int .i64 2, .int .i64 0])) 1 [(0, .ints .i64 [0])]) := by
  refine @Eq.mpr _ (let q1 := t8.k1;
 let q2 := q1 = q1;
 let q3 := t8.k0;
 let q4 := q3 = q3;
 let q5 := AV.arr IntKind.u8 32 q1;
 let q6 := AV.arr IntKind.u8 32 zero32;
 let q7 := AV.int IntKind.i64 t8.delay;
 let q8 := AV.int IntKind.i64 0;
 let q9 := AV.arr IntKind.u8 32 q3;
 q2 ∧
 q4 ∧
 q2 ∧
 q4 ∧ q2 ∧ q4 ∧ q2 ∧ q4 ∧ q2 ∧ q4 ∧ q4 ∧ q4 ∧ q4 ∧ (∀ (i : Nat), i < 3 → catF 2 (catF 1 (catF 0 (fun (x : Nat) => []) (rowC [AV.int IntKind.i64 3, AV.int IntKind.i64 380, q5, q6, q6, q6, q7, q8, q8, AV.int IntKind.i64 (-1)] 0 134)) (rowC [AV.int IntKind.i64 1, AV.int IntKind.i64 595, q9, q6, q6, q6, q8, q8, q8, AV.int IntKind.i64 (-2)] 0 134)) (rowC [AV.int IntKind.i64 5, AV.int IntKind.i64 20, q5, q9, q6, q6, q7, AV.int IntKind.i64 9, q8, q8] 0 134) i = mRows [mB1, mB2, mB3] i) ∧ t8.fund = t8.fund ∧ q4 ∧ q2 ∧ q4 ∧ q4 ∧ q4 ∧ (∀ (i : Nat), i < 3 → catF 2 (catF 1 (catF 0 (fun (x : Nat) => []) (rowC [AV.int IntKind.i64 3, AV.int IntKind.i64 380, q5, q6, q6, q6, q7, q8, q8, AV.int IntKind.i64 (-1)] 0 134)) (rowC [AV.int IntKind.i64 1, AV.int IntKind.i64 595, q9, q6, q6, q6, q8, q8, q8, AV.int IntKind.i64 (-2)] 0 134)) (rowC [AV.int IntKind.i64 5, AV.int IntKind.i64 20, q5, q9, q6, q6, q7, AV.int IntKind.i64 9, q8, q8] 0 134) i = mRows [mB1, mB2, mB3] i) ∧ [(0 : Int)] = [(0 : Int)] ∧ True) (by kernel_rfl) ?_
  conv => zeta
  have e3 : ∀ i : Nat, i < 3 → i = 0 ∨ i = 1 ∨ i = 2 := by omega
  and_intros
  all_goals first
    | rfl
    | trivial
    | (intro i hi; exact one_row mC1 i hi)
    | (intro i hi; exact two_rows mA1 mA2 i hi)
    | (intro i hi; exact rows_snoc (O := [mB1, mB2]) (x := mB3) (c := 2) rfl (fun k hk => two_rows mB1 mB2 k hk) hi)
    | (refine outRowsEq fun i hi => ?_; rcases e3 i (by omega) with rfl | rfl | rfl <;> first | rfl | omega)
set_option maxRecDepth 100000 in
set_option maxHeartbeats 0 in
theorem clA (X : Nat) (hx : X = X) :
    evF E88 20 34 [.agg t8.c, .agg [.arr .i64 2 [600, 400]], .int .i64 600] ⟨0, []⟩ (outM 0 (.ret (.tuple [.agg [.int .i64 2147483647, .nslice ⟨0, 0, 0, 0, 0⟩ 130 1 1, .nslice ⟨1, 0, 132, 0, 0⟩ 132 1 1], .int .i64 0])) 2 [(0, .flat (InS.c (inOf t8))), (1, .rows 132 1 (outRows (fun _ => ⟨1, 400, hsh 2, zero32, zero32, zero32, 0, 0⟩)))]) := by
  refine @Eq.mpr _ (let q1 := t8.k1;
 let q2 := q1 = q1;
 let q3 := t8.k0 = t8.k0;
 let q4 := AV.arr IntKind.u8 32 zero32;
 let q5 := AV.int IntKind.i64 0;
 let q6 := t8.fund;
 let q7 := inOf t8;
 let q8 := mC1.o;
 q2 ∧ q3 ∧ q2 ∧ q3 ∧ q2 ∧ q3 ∧ q2 ∧ q3 ∧ q2 ∧ q3 ∧ (∀ (i : Nat), i < 1 → catF 0 (fun (x : Nat) => []) (rowC [AV.int IntKind.i64 1, AV.int IntKind.i64 400, AV.arr IntKind.u8 32 q1, q4, q4, q4, q5, q5, AV.int IntKind.i64 1, q5] 0 134) i = mRows [mC1] i) ∧ q6 = q6 ∧ q3 ∧ q2 ∧ q6 = q7.name ∧ zero32 = q7.tag ∧ zero32 = q7.also ∧ zero32 = q7.secret ∧ RowsEq 0 [(1, 15), (0, 11)] 1 (outRows fun (x : Nat) => OutS.mk 1 400 (hsh 2) zero32 zero32 zero32 0 0) (catF 0 (fun (x : Nat) => []) (rowC [AV.int IntKind.i64 q8.kind, AV.int IntKind.i64 q8.amount, AV.arr IntKind.u8 32 q8.owner, AV.arr IntKind.u8 32 q8.other, AV.arr IntKind.u8 32 q8.point, AV.arr IntKind.u8 32 q8.hash, AV.int IntKind.i64 q8.delay, AV.int IntKind.i64 q8.expiry] 0 132)) ∧ True) (by kernel_rfl) ?_
  conv => zeta
  have e3 : ∀ i : Nat, i < 3 → i = 0 ∨ i = 1 ∨ i = 2 := by omega
  and_intros
  all_goals first
    | rfl
    | trivial
    | (intro i hi; exact one_row mC1 i hi)
    | (intro i hi; exact two_rows mA1 mA2 i hi)
    | (intro i hi; exact rows_snoc (O := [mB1, mB2]) (x := mB3) (c := 2) rfl (fun k hk => two_rows mB1 mB2 k hk) hi)
    | (refine outRowsEq fun i hi => ?_; rcases e3 i (by omega) with rfl | rfl | rfl <;> first | rfl | omega)
def co8F : FSumm := fun args h K => viewL none h true 20 args fun a => match a with
  | [ct, .agg [nu, ow, po, .arr .i64 2 [x, y], pe]] => match decide (y = 400) with
    | true => ct = .agg t8.c ∧ AV.agg [nu, ow, po, .arr .i64 2 [x, y], pe] = .agg sh8A ∧ K (.ret (.tuple [.agg [.int .i64 0, .nslice ⟨h.next, 0, 0, 0, 0⟩ 130 1 1, .nslice ⟨h.next + 1, 0, 132, 0, 0⟩ 132 2 2], .int .i64 0])) ⟨h.next + 2, (h.next, .flat (InS.c (inOf t8))) :: (h.next + 1, .rows 132 2 (outRows (fun i => match i with | 0 => ⟨1, 400, hsh 2, zero32, zero32, zero32, 0, 0⟩ | _ => ⟨3, 595, hsh 1, zero32, zero32, zero32, 3, 0⟩))) :: h.bs⟩
    | false => match decide (y = 380) with
      | true => ct = .agg t8.c ∧ AV.agg [nu, ow, po, .arr .i64 2 [x, y], pe] = .agg sh8B ∧ K (.ret (.tuple [.agg [.int .i64 0, .nslice ⟨h.next, 0, 0, 0, 0⟩ 130 1 1, .nslice ⟨h.next + 1, 0, 132, 0, 0⟩ 132 3 3], .int .i64 0])) ⟨h.next + 2, (h.next, .flat (InS.c (inOf t8))) :: (h.next + 1, .rows 132 3 (outRows (fun i => match i with | 0 => ⟨5, 20, hsh 2, hsh 1, zero32, zero32, 3, 9⟩ | 1 => ⟨3, 380, hsh 2, zero32, zero32, zero32, 3, 0⟩ | _ => ⟨1, 595, hsh 1, zero32, zero32, zero32, 0, 0⟩))) :: h.bs⟩
      | false => ct = .agg t8.c ∧ AV.agg [nu, ow, po, .arr .i64 2 [x, y], pe] = .agg sh8C ∧ K (.ret (.tuple [.agg txZ, .int .i64 2])) h
  | _ => False
theorem co8_ok (args : List AV) (h : Heap) (K : KO) (hl : co8F args h K) : CallsA PP 26 args h K := by
  refine Pure.fsumm (d := 20) (viewL_weak _ _ _ _ _ hl fun a ha => ?_)
  split at ha
  · split at ha
    · obtain ⟨rfl, e, hK⟩ := ha
      rw [e]
      exact ⟨_, _, _, _, .evM E88_ok (coA 0 rfl), rfl, ⟨by decide, .flat _ rfl, by decide, .rows _ _ _ (fun i _ => OutS.plainC _), trivial⟩, hK⟩
    · split at ha
      · obtain ⟨rfl, e, hK⟩ := ha
        rw [e]
        exact ⟨_, _, _, _, .evM E88_ok (coB 0 rfl), rfl, ⟨by decide, .flat _ rfl, by decide, .rows _ _ _ (fun i _ => OutS.plainC _), trivial⟩, hK⟩
      · obtain ⟨rfl, e, hK⟩ := ha
        rw [e]
        exact ⟨_, _, _, _, .evM E88_ok (coC 0 rfl), rfl, trivial, hK⟩
  · exact ha.elim
def pl8F : FSumm := fun args h K => viewL none h true 20 args fun a => a = [.agg t8.c, .agg sh8B] ∧ K (.ret (.tuple [.nslice ⟨h.next, 0, 0, 0, 0⟩ 1 1 1, .int .i64 1, .int .i64 2, .int .i64 0])) ⟨h.next + 1, (h.next, .ints .i64 [0]) :: h.bs⟩
theorem pl8_ok (args : List AV) (h : Heap) (K : KO) (hl : pl8F args h K) : CallsA PP 27 args h K := by
  refine Pure.fsumm (d := 20) (viewL_weak _ _ _ _ _ hl fun a ha => ?_)
  obtain ⟨rfl, hK⟩ := ha
  exact ⟨_, _, _, _, .evM E88_ok (plB 0 rfl), rfl, ⟨by decide, .ints _ _, trivial⟩, hK⟩
def cl8F : FSumm := fun args h K => viewL none h true 20 args fun a => a = [.agg t8.c, .agg [.arr .i64 2 [600, 400]], .int .i64 600] ∧ K (.ret (.tuple [.agg [.int .i64 2147483647, .nslice ⟨h.next, 0, 0, 0, 0⟩ 130 1 1, .nslice ⟨h.next + 1, 0, 132, 0, 0⟩ 132 1 1], .int .i64 0])) ⟨h.next + 2, (h.next, .flat (InS.c (inOf t8))) :: (h.next + 1, .rows 132 1 (outRows (fun _ => ⟨1, 400, hsh 2, zero32, zero32, zero32, 0, 0⟩))) :: h.bs⟩
theorem cl8_ok (args : List AV) (h : Heap) (K : KO) (hl : cl8F args h K) : CallsA PP 34 args h K := by
  refine Pure.fsumm (d := 20) (viewL_weak _ _ _ _ _ hl fun a ha => ?_)
  obtain ⟨rfl, hK⟩ := ha
  exact ⟨_, _, _, _, .evM E88_ok (clA 0 rfl), rfl, ⟨by decide, .flat _ rfl, by decide, .rows _ _ _ (fun i _ => OutS.plainC _), trivial⟩, hK⟩
noncomputable def E88b (A : List Int → Int × Int) (Nm : TxS → List Int) : Env2 := (((((G0.withP 96 (nameS A Nm)).withP 64 (ckS A)).withF 167 cleF).withF 26 co8F).withF 27 pl8F).withF 34 cl8F
theorem E88b_ok : (E88b addM nameT).Ok := Env2.withF_ok (Env2.withF_ok (Env2.withF_ok (Env2.withF_ok (Env2.withP_ok (Env2.withP_ok G0_ok nameS_ok) ckS_ok) cleF_ok) co8_ok) pl8_ok) cl8_ok
set_option maxRecDepth 100000 in
set_option maxHeartbeats 0 in
theorem wk_1 (A : List Int → Int × Int) (Nm : TxS → List Int) (b : Bool) (hA : A = addM) (hN : Nm = nameT) (hb : b = true) :
    evF (E88b A Nm) 20 25 [] ⟨0, []⟩ (outV (fun v => v = .bool b)) := by
  refine @Eq.mpr _ (let q1 := AV.arr IntKind.u8 32 zero32;
 let q2 := AV.int IntKind.i64 0;
 let q3 := [(0 : Int), 0, 0, 0, 0, 0, 0, 0, 0, 0, 0, 0, 0, 0, 0, 0, 0, 0, 0, 0, 0, 0, 0, 0, 0, 0, 0, 0, 0, 0, 0];
 let q4 := AV.agg [q1, q2, AV.int IntKind.i64 1000, AV.int IntKind.i64 10, AV.int IntKind.i64 5, AV.int IntKind.i64 3, AV.arr IntKind.u8 32 ((1 : Int) :: q3), AV.arr IntKind.u8 32 ((2 : Int) :: q3)];
 let q5 := AV.agg (TermS.c t8);
 let q6 := q4 = q5;
 let q7 := AV.arr IntKind.i64 2 [(600 : Int), 400];
 let q8 := AV.agg [q2, AV.int IntKind.i64 1, q1, AV.arr IntKind.i64 2 [(600 : Int), 380], AV.vrows 36 1 (rowC [q2, q2, AV.int IntKind.i64 20, q1, AV.int IntKind.i64 9] 0 36) 1];
 let q9 := [AV.agg [q7], AV.int IntKind.i64 600];
 let q10 := inOf t8;
 let q11 := AV.bool true = AV.bool b;
 q6 ∧
 AV.agg [q2, q2, q1, q7, AV.nilslice] = AV.agg sh8A ∧
 q6 ∧
 q8 = AV.agg sh8B ∧
 [q4, q8] = [q5, AV.agg sh8B] ∧
 q4 :: q9 = q5 :: q9 ∧
 q6 ∧
 AV.agg [q2, q2, q1, AV.arr IntKind.i64 2 [(600 : Int), 401], AV.nilslice] = AV.agg sh8C ∧
 (∀ (i : Nat), i < 2 → true = true) ∧
 ∃ (t : TxS),
 (t.num = 0 ∧
 (((1 : Nat) = 1 ∧ t.N = 1) ∧ ∀ (i : Nat), i < 1 → rowC [AV.arr IntKind.u8 32 q10.name, AV.int IntKind.i64 q10.index, AV.int IntKind.i64 q10.way, AV.arr IntKind.u8 32 q10.tag, AV.arr IntKind.u8 32 q10.also, AV.arr IntKind.u8 32 q10.secret] 0 130 i = InS.c (t.ins i)) ∧
 ((2 : Nat) = 2 ∧ t.M = 2) ∧
 ∀ (i : Nat),
 let q23 :=
 match i with
 | 0 => OutS.mk 1 400 (hsh 2) zero32 zero32 zero32 0 0
 | x => OutS.mk 3 595 (hsh 1) zero32 zero32 zero32 3 0;
 i < 2 → [AV.int IntKind.i64 q23.kind, AV.int IntKind.i64 q23.amount, AV.arr IntKind.u8 32 q23.owner, AV.arr IntKind.u8 32 q23.other, AV.arr IntKind.u8 32 q23.point, AV.arr IntKind.u8 32 q23.hash, AV.int IntKind.i64 q23.delay, AV.int IntKind.i64 q23.expiry] = OutS.c (t.outs i)) ∧
 TxS.Ok t ∧ iteB (ckTx A t) (∃ (t : TxS), (t.num = 0 ∧ t.N = 0 ∧ ((1 : Nat) = 1 ∧ t.M = 1) ∧ ∀ (i : Nat), i < 1 → rowC [AV.int IntKind.i64 1, q2, q1, q1, q1, q1, q2, q2] 0 132 i = OutS.c (t.outs i)) ∧ TxS.Ok t ∧ iteB (ckTx A t) (AV.bool false = AV.bool b) q11) q11) (by kernel_rfl) ?_
  conv => zeta
  try simp only [need_eq]
  try simp only [nope_eq]
  try simp only [iteD_eq]
  try simp only [iteT_eq]
  try simp only [iteF_eq]
  try simp only [iteE_eq]
  try simp only [Int.toNat_natCast, Nat.zero_add, true_and, and_true, Nat.le_refl]
  subst hA
  have i0 : ∀ i : Nat, i < 1 → i = 0 := by omega
  have hT : (⟨0, 1, fun _ => inOf t8, 2, fun i => match i with | 0 => ⟨1, 400, hsh 2, zero32, zero32, zero32, 0, 0⟩ | _ => ⟨3, 595, hsh 1, zero32, zero32, zero32, 3, 0⟩⟩ : TxS).Ok :=
    ⟨by show 1 < _; decide, by show 2 < _; decide, fun _ _ => ⟨rfl, rfl, rfl, rfl⟩, fun i _ => by cases i <;> exact ⟨rfl, rfl, rfl, rfl⟩⟩
  have hU : (⟨0, 0, fun _ => inZ, 1, fun _ => ⟨1, 0, zero32, zero32, zero32, zero32, 0, 0⟩⟩ : TxS).Ok :=
    ⟨by show 0 < _; decide, by show 1 < _; decide, fun i hi => absurd hi (Nat.not_lt_zero i), fun _ _ => ⟨rfl, rfl, rfl, rfl⟩⟩
  refine ⟨rfl, rfl, rfl, rfl, rfl, rfl, rfl, rfl, fun _ _ => trivial, _, ⟨rfl, ⟨rfl, fun i hi => ?_⟩, rfl, fun i hi => rfl⟩, hT, fun _ => ⟨_, ⟨rfl, rfl, rfl, fun i hi => ?_⟩, hU, fun hc => ?_, fun _ => by rw [hb]⟩, fun _ => by rw [hb]⟩
  · rw [i0 i hi]; rfl
  · rw [i0 i hi]; rfl
  · rw [← rightR_ck] at hc
    unfold rightR at hc
    simp at hc
theorem works8_ok (args : List AV) (h : Heap) (K : AV → Prop) (hl : works8S args h K) : CallsA PP 25 args h fun o h' => ∃ v, o = .ret v ∧ h' = h ∧ K v := by
  unfold works8S at hl
  split at hl
  · exact outV_ev E88b_ok rfl (wk_1 _ _ _ rfl rfl rfl) (fun u hu => hu ▸ hl)
  · exact hl.elim
end Go.Tk
end
section
namespace Go.Tk
def termTy : List Ty := [.arr .u8 32, .int .i64, .int .i64, .int .i64, .int .i64, .int .i64, .arr .u8 32, .arr .u8 32]
theorem bytes_of8 {n : Nat} {xs : List Int} (h : xs.length = n) (hw : ∀ i, i < n → (Lit.int .u8 (xs.getD i 0)).wf = true) : Bytes xs := ⟨fun i => by
  by_cases hi : i < n
  · have := hw i hi
    simp [Lit.wf] at this
    have m1 : IntKind.u8.min = 0 := rfl
    have m2 : IntKind.u8.max = 255 := rfl
    simp
    omega
  · rw [List.getD_eq_getElem?_getD, List.getElem?_eq_none (by omega)]; simp⟩
theorem fits_terms {a : AV} (h : FitsA true termTy a) : ∃ t : TermS, a = .agg t.c ∧ t.Ok ∧ t.fund.length = 32 := by
  cases h with | agg _ u h =>
  unfold termTy at h
  cases h with | cons _ a1 _ u h1 h =>
  cases h with | cons _ a2 _ u h2 h =>
  cases h with | cons _ a3 _ u h3 h =>
  cases h with | cons _ a4 _ u h4 h =>
  cases h with | cons _ a5 _ u h5 h =>
  cases h with | cons _ a6 _ u h6 h =>
  cases h with | cons _ a7 _ u h7 h =>
  cases h with | cons _ a8 _ u h8 h =>
  cases h; cases h1; cases h2; cases h3; cases h4; cases h5; cases h6; cases h7; cases h8
  rename_i x1 l1 w1 x2 w2 x3 w3 x4 w4 x5 w5 x6 w6 x7 l7 w7 x8 l8 w8
  exact ⟨⟨x1, x2, x3, x4, x5, x6, x7, x8⟩, rfl, ⟨l7, l8, bytes_of8 l7 w7, bytes_of8 l8 w8⟩, l1⟩
end Go.Tk
end
section
namespace Go.Tk
theorem commitcloses_walk {us : List AV} (h : FitsL [(true, termTy), (false, [.int .i64]), (false, [.int .i64]), (false, [.int .i64])] us) : CallsA PP 6 us ⟨0, []⟩ fun o h' => ∃ v, o = .ret v ∧ h' = ⟨0, []⟩ ∧ v = .bool true := by
  cases h with | cons _ _ a _ _ h1 h =>
  cases h with | cons _ _ b _ _ h2 h =>
  cases h with | cons _ _ c _ _ h3 h =>
  cases h with | cons _ _ d _ _ h4 h =>
  cases h
  obtain ⟨t, rfl, ht, hf⟩ := fits_terms h1
  cases h2 with | one _ _ h2 => cases h2 with | int k x hx =>
  cases h3 with | one _ _ h3 => cases h3 with | int k y hy =>
  cases h4 with | one _ _ h4 => cases h4 with | int k z hz =>
  have hE : (E87 addM sameT).Ok := Env2.withF_ok (Env2.withF_ok (Env2.withP_ok (Env2.withP_ok G0_ok works8_ok) samer_ok) clF_ok) clrF_ok
  have hx2 : x < 9223372036854775808 := by
    have m2 : IntKind.i64.max = 9223372036854775807 := rfl
    simp [Lit.wf] at hx
    omega
  exact outV_ev (h := ⟨0, []⟩) hE rfl (cc_1 _ _ t x y z ht hf rfl hx2) (fun u hu => hu)
end Go.Tk
namespace Go.Proofs.YtcccfejghfgdoaaGreat.commitCloses
open Go.ChangeShapes Go.WideShapes Go.ChangeAt Go.RowKit
theorem own : ownKnob Tryz.prog.godebug = none := by kernel_rfl
theorem laidOut : laidOutB Tryz.prog = true := by kernel_rfl
set_option maxRecDepth 100000 in
theorem lifted (os : Os) (started : os.Started) (H : Type) (enc : TypeId × Value → H) :
    ReturnsInHanded {} Tryz.checked os 6 .any (Rows.commitClosesSpec.pre6 enc Tryz.prog Tryz.f6 Rows.commitClosesRow.domain false) (Rows.commitClosesSpec.post enc Tryz.prog Tryz.f6 false true false false) :=
  Go.Tk.lifted_gen (C := Tryz.checked) (m := 8) (τs := [(true, Go.Tk.termTy), (false, [.int .i64]), (false, [.int .i64]), (false, [.int .i64])]) own laidOut started (by kernel_rfl) Tryz.func6
    (ChangeSpec.witness6 (enc := enc) (C := Tryz.checked) false ⟨#[], #[.agg (Array.replicate 32 (.int .u8 0) ++ #[.int .i64 0, .int .i64 0, .int .i64 0, .int .i64 0, .int .i64 0] ++ Array.replicate 64 (.int .u8 0)), .int .i64 0, .int .i64 0, .int .i64 0], []⟩ 8 (by kernel_rfl) (by kernel_rfl) (by kernel_rfl) (by kernel_rfl))
    rfl (tb := 4) rfl Tryz.underlying4 (by kernel_rfl) (by kernel_rfl) (fun ds h => by
      match ds, h with
      | [a, b, c, d], _ => rfl) fun us h => Go.Tk.commitcloses_walk h
theorem fnamed : Tryz.pinned.checked.prog.funcNamed Rows.commitClosesRow.func = some 6 := by kernel_rfl
set_option maxHeartbeats 0 in
theorem closed : joinedFacts Tryz.pinned.checked.prog 6 Tryz.f6 Rows.commitClosesSpec Rows.commitClosesRow = true := by
  unfold joinedFacts
  repeat' with_reducible refine Go.Tk.and_mk ?_ ?_
  all_goals as_aux_lemma => kernel_rfl
theorem over : Rows.commitClosesRow.holds Tryz.pinned (OpenSpec.ofChange Rows.commitClosesSpec) :=
  OpenClaim.holds_of_wide 6 Tryz.f6 rfl rfl rfl rfl rfl rfl rfl ⟨rfl, rfl, rfl, rfl, rfl⟩ rfl rfl rfl rfl rfl fnamed Tryz.func6 closed
    (of_decide_eq_true (by kernel_rfl)) (by unfold Func.isWrapper; first | (rw [if_pos (by decide +kernel)]; kernel_rfl) | (rw [if_neg (by decide +kernel)]; exact ⟨rfl, rfl⟩))
    (fun os started H enc _ => lifted os started H enc)
theorem proved : Rows.CommitClosesSaid := over
end Go.Proofs.YtcccfejghfgdoaaGreat.commitCloses
end
