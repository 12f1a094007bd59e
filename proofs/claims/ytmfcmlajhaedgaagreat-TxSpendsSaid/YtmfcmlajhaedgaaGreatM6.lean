/- M: part 6 of an engine (a symbolic evaluator, proved against the model) and of the walk by it. -/
import Derived.Test.YtmfcmlajhaedgaaGreatM5
import Derived.Test.YtmfcmlajhaedgaaGreatRows
import Derived.ChangeOld
set_option linter.unusedVariables false
set_option linter.unusedSimpArgs false
section
namespace Go.Tk
def U32 (x : Int) : Prop := 0 ≤ x ∧ x < 4294967296
theorem wr32 (x : Int) : IntKind.u32.wrap x = x % 4294967296 := by
  unfold IntKind.wrap
  simp [IntKind.bits, IntKind.signed]
theorem wr32_U (x : Int) : U32 (IntKind.u32.wrap x) := by rw [wr32]; unfold U32; omega
theorem wr32_id {x : Int} (h : U32 x) : IntKind.u32.wrap x = x := by rw [wr32]; unfold U32 at h; omega
theorem wr8 (x : Int) : IntKind.u8.wrap x = x % 256 := by
  unfold IntKind.wrap
  simp [IntKind.bits, IntKind.signed]
theorem bOr_U (x y : Int) : U32 (bOr .u32 x y) := wr32_U _
theorem bXor_nat (x y : Nat) (hx : x < 4294967296) (hy : y < 4294967296) : bXor .u32 x y = ((x ^^^ y : Nat) : Int) := by
  unfold bXor
  rw [wr32_id]
  · show (((BitVec.ofInt 32 (x : Int) ^^^ BitVec.ofInt 32 (y : Int)).toNat : Nat) : Int) = _
    rw [BitVec.toNat_xor, BitVec.ofInt_natCast, BitVec.ofInt_natCast, BitVec.toNat_ofNat, BitVec.toNat_ofNat, Nat.mod_eq_of_lt hx, Nat.mod_eq_of_lt hy]
  · unfold U32
    have := (BitVec.ofInt IntKind.u32.bits x ^^^ BitVec.ofInt IntKind.u32.bits y).isLt
    simp only [IntKind.bits] at this
    simp only [IntKind.bits]
    omega
theorem bOr_nat (x y : Nat) (hx : x < 4294967296) (hy : y < 4294967296) : bOr .u32 x y = ((x ||| y : Nat) : Int) := by
  unfold bOr
  rw [wr32_id]
  · show (((BitVec.ofInt 32 (x : Int) ||| BitVec.ofInt 32 (y : Int)).toNat : Nat) : Int) = _
    rw [BitVec.toNat_or, BitVec.ofInt_natCast, BitVec.ofInt_natCast, BitVec.toNat_ofNat, BitVec.toNat_ofNat, Nat.mod_eq_of_lt hx, Nat.mod_eq_of_lt hy]
  · unfold U32
    have := (BitVec.ofInt IntKind.u32.bits x ||| BitVec.ofInt IntKind.u32.bits y).isLt
    simp only [IntKind.bits] at this
    simp only [IntKind.bits]
    omega
theorem bAnd_nat (x y : Nat) (hx : x < 4294967296) (hy : y < 4294967296) : bAnd .u32 x y = ((x &&& y : Nat) : Int) := by
  unfold bAnd
  rw [wr32_id]
  · show (((BitVec.ofInt 32 (x : Int) &&& BitVec.ofInt 32 (y : Int)).toNat : Nat) : Int) = _
    rw [BitVec.toNat_and, BitVec.ofInt_natCast, BitVec.ofInt_natCast, BitVec.toNat_ofNat, BitVec.toNat_ofNat, Nat.mod_eq_of_lt hx, Nat.mod_eq_of_lt hy]
  · unfold U32
    have := (BitVec.ofInt IntKind.u32.bits x &&& BitVec.ofInt IntKind.u32.bits y).isLt
    simp only [IntKind.bits] at this
    simp only [IntKind.bits]
    omega
theorem U32.nat {x : Int} (h : U32 x) : ∃ n : Nat, x = n ∧ n < 4294967296 := ⟨x.toNat, by unfold U32 at h; omega, by unfold U32 at h; omega⟩
theorem U32.of {n : Nat} (h : n < 4294967296) : U32 (n : Int) := by unfold U32; omega
theorem bXor_comm {x y : Int} : bXor .u32 x y = bXor .u32 y x := by unfold bXor; rw [BitVec.xor_comm]
theorem bXor_assoc {x y z : Int} (hx : U32 x) (hy : U32 y) (hz : U32 z) : bXor .u32 (bXor .u32 x y) z = bXor .u32 x (bXor .u32 y z) := by
  obtain ⟨x, rfl, gx⟩ := hx.nat
  obtain ⟨y, rfl, gy⟩ := hy.nat
  obtain ⟨z, rfl, gz⟩ := hz.nat
  rw [bXor_nat x y gx gy, bXor_nat y z gy gz, bXor_nat _ z (Nat.xor_lt_two_pow (n := 32) gx gy) gz, bXor_nat x _ gx (Nat.xor_lt_two_pow (n := 32) gy gz), Nat.xor_assoc]
theorem bXor_zero {x : Int} (hx : U32 x) : bXor .u32 0 x = x := by
  obtain ⟨x, rfl, gx⟩ := hx.nat
  have := bXor_nat 0 x (by omega) gx
  simpa using this
theorem shr_nat (x n : Nat) (hn : n ≤ 32) : shrI .u32 x n = ((x / 2 ^ n : Nat) : Int) := by
  unfold shrI
  have : min (n : Int).toNat IntKind.u32.bits = n := by simp [IntKind.bits]; omega
  rw [this, Int.fdiv_eq_ediv_of_nonneg _ (Int.le_of_lt (Int.pow_pos (by decide)))]
  simp
theorem shr_U {x : Int} (hx : U32 x) (n : Nat) (hn : n ≤ 32) : U32 (shrI .u32 x n) := by
  obtain ⟨x, rfl, gx⟩ := hx.nat
  rw [shr_nat x n hn]
  exact U32.of (Nat.lt_of_le_of_lt (Nat.div_le_self x (2 ^ n)) gx)
theorem rotI_U (w n : Int) : U32 (rotI w n) := bOr_U _ _
theorem sg3_sig {w : Int} (hw : U32 w) (a b c : Int) : sg3 a b c w = sigI 32 [a, b, c] w := by
  obtain ⟨x, rfl, gx⟩ := hw.nat
  have h0 : shrI .u32 (x : Int) 32 = 0 := by
    rw [show (32 : Int) = ((32 : Nat) : Int) from rfl, shr_nat x 32 (by omega), Nat.div_eq_of_lt gx]
    rfl
  unfold sg3 sigI
  simp only [List.foldl_cons, List.foldl_nil, h0, bXor_zero (rotI_U _ _)]
theorem rg3_sig {w : Int} (hw : U32 w) (a b : Int) (n : Nat) (hn : n ≤ 32) : rg3 a b n w = sigI n [a, b] w := by
  have hs := shr_U hw n hn
  unfold rg3 sigI
  simp only [List.foldl_cons, List.foldl_nil]
  rw [bXor_comm, bXor_assoc hs (rotI_U _ _) (rotI_U _ _)]
theorem div_tmod2 (x i : Nat) (hi : i ≤ 32) : Int.tmod (shrI .u32 x i) 2 = (((x.testBit i).toNat : Nat) : Int) := by
  rw [shr_nat x i hi]
  rw [Int.tmod_eq_emod_of_nonneg (Int.natCast_nonneg _), Nat.toNat_testBit]
  rfl
theorem shl_bit (b : Bool) (i : Nat) (hi : i < 32) : shlI .u32 ((b.toNat : Nat) : Int) i = ((2 ^ i * b.toNat : Nat) : Int) := by
  unfold shlI
  have : min (i : Int).toNat IntKind.u32.bits = i := by simp [IntKind.bits]; omega
  rw [this]
  have h2 : (2 : Nat) ^ i < 2 ^ 32 := Nat.pow_lt_pow_right (by decide) hi
  have h3 : ((2 : Nat) ^ i * b.toNat) < 4294967296 := by cases b <;> simp_all
  rw [show ((b.toNat : Nat) : Int) * 2 ^ i = ((2 ^ i * b.toNat : Nat) : Int) by push_cast; rw [Int.mul_comm]]
  exact wr32_id (U32.of h3)
theorem mod_bit (x i : Nat) : x % 2 ^ (i + 1) = x % 2 ^ i + 2 ^ i * (x.testBit i).toNat := by
  rw [Nat.toNat_testBit, Nat.mod_pow_succ]
theorem add_bit (x i : Nat) (hx : x < 4294967296) (hi : i < 32) : IntKind.u32.wrap (((x % 2 ^ i : Nat) : Int) + ((2 ^ i * (x.testBit i).toNat : Nat) : Int)) = ((x % 2 ^ (i + 1) : Nat) : Int) := by
  rw [mod_bit]
  rw [wr32_id]
  · push_cast; rfl
  · rw [show ((x % 2 ^ i : Nat) : Int) + ((2 ^ i * (x.testBit i).toNat : Nat) : Int) = ((x % 2 ^ i + 2 ^ i * (x.testBit i).toNat : Nat) : Int) by push_cast; rfl, ← mod_bit]
    exact U32.of (Nat.lt_of_le_of_lt (Nat.mod_le _ _) hx)
theorem most_bits (a b c : Nat) (ha : a < 4294967296) (hb : b < 4294967296) (hc : c < 4294967296) : ∀ i, i ≤ 32 → mostO a b c i = (((a &&& (b ||| c) ||| b &&& c) % 2 ^ i : Nat) : Int)
  | 0, _ => by simp [mostO, Nat.mod_one]
  | i + 1, hi => by
    have hm : (a &&& (b ||| c) ||| b &&& c) < 4294967296 := Nat.or_lt_two_pow (n := 32) (Nat.lt_of_le_of_lt Nat.and_le_left ha) (Nat.lt_of_le_of_lt Nat.and_le_left hb)
    rw [mostO, most_bits a b c ha hb hc i (by omega), div_tmod2 a i (by omega), div_tmod2 b i (by omega), div_tmod2 c i (by omega), ← add_bit _ i hm (by omega)]
    have ht : (a &&& (b ||| c) ||| b &&& c).testBit i = (a.testBit i && (b.testBit i || c.testBit i) || b.testBit i && c.testBit i) := by simp
    rw [ht]
    have h1 := shl_bit true i (by omega)
    have hx : IntKind.u32.wrap (((a &&& (b ||| c) ||| b &&& c) % 2 ^ i : Nat) : Int) = (((a &&& (b ||| c) ||| b &&& c) % 2 ^ i : Nat) : Int) := wr32_id (U32.of (Nat.lt_of_le_of_lt (Nat.mod_le _ _) hm))
    rw [wr32, wr32]
    cases a.testBit i <;> cases b.testBit i <;> cases c.testBit i <;> simp at h1 hx ⊢ <;> first | rw [h1] | rw [hx]
theorem most_eq {a b c : Int} (ha : U32 a) (hb : U32 b) (hc : U32 c) : mostR a b c = bOr .u32 (bAnd .u32 a (bOr .u32 b c)) (bAnd .u32 b c) := by
  obtain ⟨a, rfl, ga⟩ := ha.nat
  obtain ⟨b, rfl, gb⟩ := hb.nat
  obtain ⟨c, rfl, gc⟩ := hc.nat
  have h1 := Nat.or_lt_two_pow (n := 32) gb gc
  have h2 : a &&& (b ||| c) < 4294967296 := Nat.lt_of_le_of_lt Nat.and_le_left ga
  have h3 : b &&& c < 4294967296 := Nat.lt_of_le_of_lt Nat.and_le_left gb
  rw [bOr_nat b c gb gc, bAnd_nat a _ ga h1, bAnd_nat b c gb gc, bOr_nat _ _ h2 h3]
  unfold mostR
  rw [most_bits a b c ga gb gc 32 (by omega), Nat.mod_eq_of_lt]
  exact Nat.or_lt_two_pow (n := 32) h2 h3
theorem pick_bits (a b c : Nat) (ha : a < 4294967296) (hb : b < 4294967296) (hc : c < 4294967296) : ∀ i, i ≤ 32 → pickO a b c i = (((c ^^^ (a &&& (b ^^^ c))) % 2 ^ i : Nat) : Int)
  | 0, _ => by simp [pickO, Nat.mod_one]
  | i + 1, hi => by
    have hm : (c ^^^ (a &&& (b ^^^ c))) < 4294967296 := Nat.xor_lt_two_pow (n := 32) hc (Nat.lt_of_le_of_lt Nat.and_le_left ha)
    rw [pickO, pick_bits a b c ha hb hc i (by omega), div_tmod2 a i (by omega), div_tmod2 b i (by omega), div_tmod2 c i (by omega), ← add_bit _ i hm (by omega)]
    have ht : (c ^^^ (a &&& (b ^^^ c))).testBit i = (c.testBit i ^^ (a.testBit i && (b.testBit i ^^ c.testBit i))) := by simp
    rw [ht]
    have h1 := shl_bit true i (by omega)
    have h0 := shl_bit false i (by omega)
    cases a.testBit i <;> cases b.testBit i <;> cases c.testBit i <;> simp at h1 h0 ⊢ <;> first | rw [h1] | rw [h0, Int.add_zero]
theorem pick_eq {a b c : Int} (ha : U32 a) (hb : U32 b) (hc : U32 c) : pickR a b c = bXor .u32 c (bAnd .u32 a (bXor .u32 b c)) := by
  obtain ⟨a, rfl, ga⟩ := ha.nat
  obtain ⟨b, rfl, gb⟩ := hb.nat
  obtain ⟨c, rfl, gc⟩ := hc.nat
  have h1 := Nat.xor_lt_two_pow (n := 32) gb gc
  have h2 : a &&& (b ^^^ c) < 4294967296 := Nat.lt_of_le_of_lt Nat.and_le_left ga
  rw [bXor_nat b c gb gc, bAnd_nat a _ ga h1, bXor_nat _ _ gc h2]
  unfold pickR
  rw [pick_bits a b c ga gb gc 32 (by omega), Nat.mod_eq_of_lt]
  exact Nat.xor_lt_two_pow (n := 32) gc h2
theorem refM_succ (bl : List Int) (t : Nat) : refM bl (t + 1) = (refM bl t).set t (if t < 16 then refB bl t else refW (refM bl t) t) := by rw [refM]
theorem refM_keep (bl : List Int) (s t : Nat) (hs : s < t) : ∀ u, (refM bl (t + u)).getD s 0 = (refM bl t).getD s 0
  | 0 => rfl
  | u + 1 => by
    rw [← Nat.add_assoc, refM_succ, ← refM_keep bl s t hs u]
    simp only [List.getD_eq_getElem?_getD]
    rw [List.getElem?_set_ne (by omega)]
@[irreducible] def schW (bl : List Int) (t : Nat) : Int := (refM bl 64).getD t 0
theorem schW_of (bl : List Int) {s t : Nat} (hs : s < t) (ht : t ≤ 64) : (refM bl t).getD s 0 = schW bl s := by
  unfold schW
  have := refM_keep bl s t hs (64 - t)
  rw [show t + (64 - t) = 64 by omega] at this
  exact this.symm
theorem schW_eq (bl : List Int) {t : Nat} (ht : t < 64) : schW bl t = if t < 16 then refB bl t else refW (refM bl t) t := by
  rw [← schW_of bl (Nat.lt_succ_self t) (by omega), refM_succ]
  simp only [List.getD_eq_getElem?_getD]
  rw [List.getElem?_set_self (by rw [refM_len]; omega)]
  rfl
theorem schW_lo (bl : List Int) {t : Nat} (ht : t < 16) : schW bl t = refB bl t := by rw [schW_eq bl (by omega), if_pos ht]
theorem schW_hi (bl : List Int) {t : Nat} (h16 : 16 ≤ t) (ht : t < 64) : schW bl t = IntKind.u32.wrap (IntKind.u32.wrap (IntKind.u32.wrap (rg3 17 19 10 (schW bl (t - 2)) + schW bl (t - 7)) + rg3 7 18 3 (schW bl (t - 15))) + schW bl (t - 16)) := by
  rw [schW_eq bl (by omega), if_neg (by omega)]
  unfold refW
  rw [schW_of bl (by omega) (by omega), schW_of bl (by omega) (by omega), schW_of bl (by omega) (by omega), schW_of bl (by omega) (by omega)]
theorem schW_U (bl : List Int) {t : Nat} (ht : t < 64) : U32 (schW bl t) := by
  by_cases h : t < 16
  · rw [schW_lo bl h]; exact wr32_U _
  · rw [schW_hi bl (by omega) ht]; exact wr32_U _
theorem mAt_nat (t : Nat) : mAt (t : Int) = t % 16 := by
  unfold mAt
  rw [tm (by omega)]
  omega
theorem atI_nat (i t : Nat) (hi : i < 8) (ht : t ≤ 64) : atI (i : Int) (t : Int) = (i + 64 - t) % 8 := by
  unfold atI
  rw [w64 (x := (i : Int) + 64) (by omega), w64 (by omega), tm (by omega)]
  omega
theorem getD_set (l : List Int) (i j : Nat) (x : Int) (hi : i < l.length) : (l.set i x).getD j 0 = if i = j then x else l.getD j 0 := by
  simp only [List.getD_eq_getElem?_getD]
  by_cases h : i = j
  · subst h
    rw [List.getElem?_set_self hi, if_pos rfl]; rfl
  · rw [List.getElem?_set_ne h, if_neg h]
def Ring (bl r : List Int) (t : Nat) : Prop := r.length = 16 ∧ ∀ s, s < max 16 t → max 16 t ≤ s + 16 → r.getD (s % 16) 0 = schW bl s
theorem Ring.step {bl r : List Int} {t : Nat} (h : Ring bl r t) (ht : t < 64) : Ring bl (shaM t r) (t + 1) := by
  obtain ⟨hl, hr⟩ := h
  refine ⟨by rw [shaM_len, hl], fun s h1 h2 => ?_⟩
  unfold shaM
  by_cases h16 : t < 16
  · rw [if_neg (by omega)]
    exact hr s (by omega) (by omega)
  · rw [if_pos (by omega)]
    have w1 : IntKind.i64.wrap ((t : Int) + 1) = ((t + 1 : Nat) : Int) := by rw [w64 (by omega)]; omega
    have w9 : IntKind.i64.wrap ((t : Int) + 9) = ((t + 9 : Nat) : Int) := by rw [w64 (by omega)]; omega
    have w14 : IntKind.i64.wrap ((t : Int) + 14) = ((t + 14 : Nat) : Int) := by rw [w64 (by omega)]; omega
    have r0 := hr (t - 16) (by omega) (by omega)
    have r1 := hr (t - 15) (by omega) (by omega)
    have r9 := hr (t - 7) (by omega) (by omega)
    have r14 := hr (t - 2) (by omega) (by omega)
    rw [show (t - 16) % 16 = t % 16 by omega] at r0
    rw [show (t - 15) % 16 = (t + 1) % 16 by omega] at r1
    rw [show (t - 7) % 16 = (t + 9) % 16 by omega] at r9
    rw [show (t - 2) % 16 = (t + 14) % 16 by omega] at r14
    rw [w1, w9, w14, mAt_nat, mAt_nat, mAt_nat, mAt_nat, r0, r1, r9, r14, getD_set _ _ _ _ (by rw [hl]; omega)]
    by_cases hs : s = t
    · subst hs
      rw [if_pos rfl, schW_hi bl (by omega) ht]
      have e1 := rg3_sig (schW_U bl (t := s - 2) (by omega)) 17 19 10 (by omega)
      have e2 := rg3_sig (schW_U bl (t := s - 15) (by omega)) 7 18 3 (by omega)
      rw [show ((10 : Nat) : Int) = 10 from rfl] at e1
      rw [show ((3 : Nat) : Int) = 3 from rfl] at e2
      rw [e1, e2]
      simp only [wr32]
      omega
    · rw [if_neg (by omega)]
      exact hr s (by omega) (by omega)
def U8 (x : Int) : Prop := 0 ≤ x ∧ x < 256
theorem shlI_32 (x n : Nat) (hn : n ≤ 32) (h : x * 2 ^ n < 4294967296) : shlI .u32 x n = ((x * 2 ^ n : Nat) : Int) := by
  unfold shlI
  have : min (n : Int).toNat IntKind.u32.bits = n := by simp [IntKind.bits]; omega
  rw [this, show (x : Int) * 2 ^ n = ((x * 2 ^ n : Nat) : Int) by push_cast; rfl]
  exact wr32_id (U32.of h)
theorem or_shl8 (x y : Nat) (hx : x < 16777216) (hy : y < 256) : bOr .u32 (shlI .u32 x 8) y = ((x * 256 + y : Nat) : Int) := by
  have := shlI_32 x 8 (by omega) (by omega)
  rw [show ((8 : Nat) : Int) = 8 from rfl] at this
  rw [this, bOr_nat _ _ (by omega) (by omega), ← Nat.shiftLeft_eq, ← Nat.shiftLeft_add_eq_or_of_lt (by omega), Nat.shiftLeft_eq]
theorem getD_all {P : Int → Prop} {l : List Int} (h : ∀ x ∈ l, P x) (h0 : P 0) (i : Nat) : P (l.getD i 0) := by
  rw [List.getD_eq_getElem?_getD]
  cases hg : l[i]? with
  | none => exact h0
  | some x => exact h x (List.mem_of_getElem? hg)
theorem U8.nat {x : Int} (h : U8 x) : ∃ n : Nat, x = n ∧ n < 256 := ⟨x.toNat, by unfold U8 at h; omega, by unfold U8 at h; omega⟩
theorem word_eq (bl : List Int) (hb : ∀ x ∈ bl, U8 x) (t : Nat) : word4 bl (4 * t) = refB bl t := by
  unfold word4 refB
  obtain ⟨a, ea, ha⟩ := (getD_all (P := U8) hb (by unfold U8; omega) (4 * t)).nat
  obtain ⟨b, eb, hb'⟩ := (getD_all (P := U8) hb (by unfold U8; omega) (4 * t + 1)).nat
  obtain ⟨c, ec, hc⟩ := (getD_all (P := U8) hb (by unfold U8; omega) (4 * t + 2)).nat
  obtain ⟨d, ed, hd⟩ := (getD_all (P := U8) hb (by unfold U8; omega) (4 * t + 3)).nat
  rw [ea, eb, ec, ed]
  rw [wr32_id (x := (a : Int)) (U32.of (by omega)), wr32_id (x := (b : Int)) (U32.of (by omega)), wr32_id (x := (c : Int)) (U32.of (by omega)), wr32_id (x := (d : Int)) (U32.of (by omega))]
  have z := or_shl8 0 a (by omega) ha
  have s0 : shlI .u32 0 8 = 0 := by decide
  rw [show shlI .u32 ((0 : Nat) : Int) 8 = 0 from s0] at z
  rw [z, or_shl8 _ b (by omega) hb', or_shl8 _ c (by omega) hc, or_shl8 _ d (by omega) hd]
  have g1 := shlI_32 a 24 (by omega) (by omega)
  have g2 := shlI_32 b 16 (by omega) (by omega)
  have g3 := shlI_32 c 8 (by omega) (by omega)
  rw [show ((24 : Nat) : Int) = 24 from rfl] at g1
  rw [show ((16 : Nat) : Int) = 16 from rfl] at g2
  rw [show ((8 : Nat) : Int) = 8 from rfl] at g3
  rw [g1, g2, g3]
  simp only [wr32]
  omega
theorem Ring.first (bl : List Int) (hb : ∀ x ∈ bl, U8 x) : Ring bl (words4 bl) 0 := by
  refine ⟨rfl, fun s h1 _ => ?_⟩
  have h16 : s < 16 := by omega
  rw [schW_lo bl h16, ← word_eq bl hb, Nat.mod_eq_of_lt h16]
  have : s = 0 ∨ s = 1 ∨ s = 2 ∨ s = 3 ∨ s = 4 ∨ s = 5 ∨ s = 6 ∨ s = 7 ∨ s = 8 ∨ s = 9 ∨ s = 10 ∨ s = 11 ∨ s = 12 ∨ s = 13 ∨ s = 14 ∨ s = 15 := by omega
  rcases this with rfl | rfl | rfl | rfl | rfl | rfl | rfl | rfl | rfl | rfl | rfl | rfl | rfl | rfl | rfl | rfl <;> rfl
def Turned (x y : List Int) (t : Nat) : Prop := x.length = 8 ∧ ∀ i, i < 8 → x.getD ((i + 64 - t) % 8) 0 = y.getD i 0
theorem Turned.step {x y m : List Int} {w : Int} {t : Nat} (h : Turned x y t) (hU : ∀ i, i < 8 → U32 (y.getD i 0)) (ht : t < 64) (hm : m.getD (t % 16) 0 = w) :
    Turned (shaX t m x) (stepX mostR pickR (shaK.getD t 0) w y) (t + 1) := by
  obtain ⟨hl, hr⟩ := h
  have a0 := atI_nat 0 t (by omega) (by omega)
  have a1 := atI_nat 1 t (by omega) (by omega)
  have a2 := atI_nat 2 t (by omega) (by omega)
  have a3 := atI_nat 3 t (by omega) (by omega)
  have a4 := atI_nat 4 t (by omega) (by omega)
  have a5 := atI_nat 5 t (by omega) (by omega)
  have a6 := atI_nat 6 t (by omega) (by omega)
  have a7 := atI_nat 7 t (by omega) (by omega)
  have h0 := hr 0 (by omega)
  have h1 := hr 1 (by omega)
  have h2 := hr 2 (by omega)
  have h3 := hr 3 (by omega)
  have h4 := hr 4 (by omega)
  have h5 := hr 5 (by omega)
  have h6 := hr 6 (by omega)
  have h7 := hr 7 (by omega)
  rw [← a0] at h0
  rw [← a1] at h1
  rw [← a2] at h2
  rw [← a3] at h3
  rw [← a4] at h4
  rw [← a5] at h5
  rw [← a6] at h6
  rw [← a7] at h7
  refine ⟨by rw [shaX_len, hl], ?_⟩
  have hadd : shaAdd t m x = IntKind.u32.wrap (IntKind.u32.wrap (IntKind.u32.wrap (IntKind.u32.wrap (y.getD 7 0 + sg3 6 11 25 (y.getD 4 0)) + pickR (y.getD 4 0) (y.getD 5 0) (y.getD 6 0)) + shaK.getD t 0) + w) := by
    unfold shaAdd
    rw [mAt_nat, hm]
    rw [show atI 7 (t : Int) = atI ((7 : Nat) : Int) t from rfl, show atI 4 (t : Int) = atI ((4 : Nat) : Int) t from rfl, show atI 5 (t : Int) = atI ((5 : Nat) : Int) t from rfl, show atI 6 (t : Int) = atI ((6 : Nat) : Int) t from rfl]
    rw [h4, h5, h6, h7, sg3_sig (hU 4 (by omega)), pick_eq (hU 4 (by omega)) (hU 5 (by omega)) (hU 6 (by omega))]
    rw [Nat.zero_add, Int.toNat_natCast]
  unfold shaX
  rw [hadd]
  rw [show atI 7 (t : Int) = atI ((7 : Nat) : Int) t from rfl, show atI 3 (t : Int) = atI ((3 : Nat) : Int) t from rfl, show atI 0 (t : Int) = atI ((0 : Nat) : Int) t from rfl, show atI 1 (t : Int) = atI ((1 : Nat) : Int) t from rfl, show atI 2 (t : Int) = atI ((2 : Nat) : Int) t from rfl]
  rw [h0, h1, h2, h3, ← most_eq (hU 0 (by omega)) (hU 1 (by omega)) (hU 2 (by omega)), ← sg3_sig (hU 0 (by omega)), a3, a7]
  intro i hi
  rw [getD_set _ _ _ _ (by rw [List.length_set, hl]; omega), getD_set _ _ _ _ (by rw [hl]; omega)]
  unfold stepX
  have : i = 0 ∨ i = 1 ∨ i = 2 ∨ i = 3 ∨ i = 4 ∨ i = 5 ∨ i = 6 ∨ i = 7 := by omega
  rcases this with rfl | rfl | rfl | rfl | rfl | rfl | rfl | rfl
  · rw [if_pos (by omega)]
    simp only [wr32, List.getD_cons_zero]
    omega
  · rw [if_neg (by omega), if_neg (by omega), show (1 + 64 - (t + 1)) % 8 = (0 + 64 - t) % 8 by omega, hr 0 (by omega)]; rfl
  · rw [if_neg (by omega), if_neg (by omega), show (2 + 64 - (t + 1)) % 8 = (1 + 64 - t) % 8 by omega, hr 1 (by omega)]; rfl
  · rw [if_neg (by omega), if_neg (by omega), show (3 + 64 - (t + 1)) % 8 = (2 + 64 - t) % 8 by omega, hr 2 (by omega)]; rfl
  · rw [if_neg (by omega), if_pos (by omega)]; rfl
  · rw [if_neg (by omega), if_neg (by omega), show (5 + 64 - (t + 1)) % 8 = (4 + 64 - t) % 8 by omega, hr 4 (by omega)]; rfl
  · rw [if_neg (by omega), if_neg (by omega), show (6 + 64 - (t + 1)) % 8 = (5 + 64 - t) % 8 by omega, hr 5 (by omega)]; rfl
  · rw [if_neg (by omega), if_neg (by omega), show (7 + 64 - (t + 1)) % 8 = (6 + 64 - t) % 8 by omega, hr 6 (by omega)]; rfl
theorem stepX_U {k w : Int} {y : List Int} (hU : ∀ i, i < 8 → U32 (y.getD i 0)) : ∀ i, i < 8 → U32 ((stepX mostR pickR k w y).getD i 0) := by
  intro i hi
  unfold stepX
  have : i = 0 ∨ i = 1 ∨ i = 2 ∨ i = 3 ∨ i = 4 ∨ i = 5 ∨ i = 6 ∨ i = 7 := by omega
  rcases this with rfl | rfl | rfl | rfl | rfl | rfl | rfl | rfl
  · exact wr32_U _
  · exact hU 0 (by omega)
  · exact hU 1 (by omega)
  · exact hU 2 (by omega)
  · exact wr32_U _
  · exact hU 4 (by omega)
  · exact hU 5 (by omega)
  · exact hU 6 (by omega)
def W8 (st : List Int) : Prop := st.length = 8 ∧ ∀ x ∈ st, U32 x
theorem W8.get {st : List Int} (h : W8 st) (i : Nat) : U32 (st.getD i 0) := getD_all h.2 (by unfold U32; omega) i
theorem turns_eq (bl st : List Int) (hb : ∀ x ∈ bl, U8 x) (hs : W8 st) : ∀ t, t ≤ 64 → Ring bl (shaT (words4 bl) st t).1 t ∧ Turned (shaT (words4 bl) st t).2 (refX mostR pickR (refM bl 64) st t) t ∧ ∀ i, i < 8 → U32 ((refX mostR pickR (refM bl 64) st t).getD i 0)
  | 0, _ => by
    rw [shaT_zero, refX_zero]
    refine ⟨Ring.first bl hb, ⟨hs.1, fun i hi => ?_⟩, fun i _ => hs.get i⟩
    rw [show (i + 64 - 0) % 8 = i by omega]
  | t + 1, h => by
    obtain ⟨h1, h2, h3⟩ := turns_eq bl st hb hs t (by omega)
    rw [shaT_succ, refX_succ]
    have hR := h1.step (by omega)
    refine ⟨hR, h2.step h3 (by omega) ?_, stepX_U h3⟩
    rw [hR.2 t (by omega) (by omega)]
    unfold schW
    rfl
theorem refA_succ (st x : List Int) (i : Nat) : refA st x (i + 1) = (refA st x i).set i (IntKind.u32.wrap ((refA st x i).getD i 0 + st.getD i 0)) := by rw [refA]
theorem refA_zero (st x : List Int) : refA st x 0 = x := by rw [refA]
theorem refA_eq (st x : List Int) (hs : st.length = 8) (hx : x.length = 8) : refA st x 8 = addS st x := by
  obtain ⟨a0, a1, a2, a3, a4, a5, a6, a7, rfl⟩ := eight st hs
  obtain ⟨b0, b1, b2, b3, b4, b5, b6, b7, rfl⟩ := eight x hx
  simp only [refA_succ, refA_zero]
  simp [addS, List.set, Int.add_comm]
theorem turned_end {x y : List Int} (h : Turned x y 64) (hy : y.length = 8) : y = x := by
  obtain ⟨h4, h5⟩ := h
  obtain ⟨a0, a1, a2, a3, a4, a5, a6, a7, rfl⟩ := eight _ hy
  obtain ⟨b0, b1, b2, b3, b4, b5, b6, b7, rfl⟩ := eight _ h4
  have g0 := h5 0 (by omega)
  have g1 := h5 1 (by omega)
  have g2 := h5 2 (by omega)
  have g3 := h5 3 (by omega)
  have g4 := h5 4 (by omega)
  have g5 := h5 5 (by omega)
  have g6 := h5 6 (by omega)
  have g7 := h5 7 (by omega)
  simp at g0 g1 g2 g3 g4 g5 g6 g7
  simp [g0, g1, g2, g3, g4, g5, g6, g7]
theorem refPress_eq (st bl : List Int) (hb : ∀ x ∈ bl, U8 x) (hs : W8 st) : refPress st bl = press st bl := by
  obtain ⟨_, h2, h3⟩ := turns_eq bl st hb hs 64 (by omega)
  have hl := refX_len (M := mostR) (P := pickR) (m := refM bl 64) hs.1 64
  unfold refPress press
  rw [refA_eq _ _ hs.1 hl]
  congr 1
  exact turned_end h2 hl
theorem press_W8 (st bl : List Int) (hs : st.length = 8) : W8 (press st bl) := by
  refine ⟨press_len st bl hs, fun x hx => ?_⟩
  unfold press addS at hx
  obtain ⟨i, hi, rfl⟩ := List.getElem_of_mem hx
  simp only [List.getElem_zipWith]
  exact wr32_U _
def blks (P : List Int → List Int → List Int) : Nat → List Int → List Int → List Int
  | 0, st, _ => st
  | n + 1, st, ms => blks P n (P st (ms.take 64)) (ms.drop 64)
theorem blks_succ (P : List Int → List Int → List Int) : ∀ (n : Nat) (st ms : List Int), blks P (n + 1) st ms = P (blks P n st ms) ((ms.drop (64 * n)).take 64)
  | 0, _, _ => rfl
  | n + 1, st, ms => by
    rw [blks, blks_succ P n, List.drop_drop]
    rw [show 64 + 64 * n = 64 * (n + 1) by omega]
    rfl
theorem blks_app (P : List Int → List Int → List Int) : ∀ (n : Nat) (st ms more : List Int), 64 * n ≤ ms.length → blks P n st (ms ++ more) = blks P n st ms
  | 0, _, _, _, _ => rfl
  | n + 1, st, ms, more, h => by
    rw [blks, blks, List.take_append_of_le_length (by omega), List.drop_append_of_le_length (by omega), blks_app P n _ _ _ (by rw [List.length_drop]; omega)]
theorem blks_congr : ∀ (n : Nat) (st ms : List Int), W8 st → (∀ x ∈ ms, U8 x) → blks refPress n st ms = blks press n st ms
  | 0, _, _, _, _ => rfl
  | n + 1, st, ms, hs, hm => by
    rw [blks, blks, refPress_eq st _ (fun x hx => hm x (List.mem_of_mem_take hx)) hs]
    exact blks_congr n _ _ (press_W8 st _ hs.1) fun x hx => hm x (List.mem_of_mem_drop hx)
structure Rep (r : RunS) (ms : List Int) : Prop where
  came : r.came = ms.length
  st : r.st = blks press (ms.length / 64) initR.st ms
  len : r.part.length = 64
  part : r.part.take (ms.length % 64) = ms.drop (64 * (ms.length / 64))
theorem Rep.ok {r : RunS} {ms : List Int} (h : Rep r ms) (h8 : r.st.length = 8) : r.Ok := ⟨h8, h.len, by rw [h.came]; omega⟩
theorem Rep.one {r : RunS} {ms : List Int} (h : Rep r ms) (bs : List Int) : Rep (r.one bs) (ms ++ wTk r.came bs) := by
  have ha : wAt r.came = ms.length % 64 := by
    unfold wAt
    rw [h.came, tm (by omega)]
    omega
  have hk : (wTk r.came bs).length ≤ 64 - ms.length % 64 := by
    unfold wTk
    rw [ha, List.length_take]
    omega
  have hdl : (ms.drop (64 * (ms.length / 64))).length = ms.length % 64 := by rw [List.length_drop]; omega
  have hp : wPart r.part r.came bs = ms.drop (64 * (ms.length / 64)) ++ wTk r.came bs ++ r.part.drop (ms.length % 64 + (wTk r.came bs).length) := by
    unfold wPart spl
    rw [ha, h.part]
  have hl : (wPart r.part r.came bs).length = 64 := by
    rw [hp, List.length_append, List.length_append, hdl, List.length_drop, h.len]
    omega
  have hst : (r.one bs).st = if ms.length % 64 + (wTk r.came bs).length = 64 then press r.st (wPart r.part r.came bs) else r.st := by
    show wSt _ _ _ _ = _
    unfold wSt
    rw [ha]
  have hca : (r.one bs).came = r.came + (wTk r.came bs).length := rfl
  have hpa : (r.one bs).part = wPart r.part r.came bs := rfl
  generalize wTk r.came bs = tk at *
  generalize wPart r.part r.came bs = pa at *
  have hal : (ms ++ tk).length = ms.length + tk.length := List.length_append
  refine ⟨by rw [hca, h.came, hal]; omega, ?_, by rw [hpa]; exact hl, ?_⟩
  · rw [hst, h.st]
    by_cases h64 : ms.length % 64 + tk.length = 64
    · rw [if_pos h64, hal, show (ms.length + tk.length) / 64 = ms.length / 64 + 1 by omega, blks_succ, blks_app _ _ _ _ _ (by omega)]
      congr 1
      rw [List.drop_append_of_le_length (by omega), hp, show r.part.drop (ms.length % 64 + tk.length) = [] from List.drop_eq_nil_of_le (by rw [h.len]; omega), List.append_nil, List.take_of_length_le (by rw [List.length_append, hdl]; omega)]
    · rw [if_neg h64, hal, show (ms.length + tk.length) / 64 = ms.length / 64 by omega, blks_app _ _ _ _ _ (by omega)]
  · rw [hpa, hal]
    by_cases h64 : ms.length % 64 + tk.length = 64
    · rw [show (ms.length + tk.length) % 64 = 0 by omega, List.take_zero, List.drop_eq_nil_of_le (by rw [hal]; omega)]
    · rw [show (ms.length + tk.length) / 64 = ms.length / 64 by omega, show (ms.length + tk.length) % 64 = ms.length % 64 + tk.length by omega, hp, List.drop_append_of_le_length (by omega)]
      rw [List.take_append_of_le_length (by rw [List.length_append, hdl]; omega)]
      exact List.take_of_length_le (by rw [List.length_append, hdl]; omega)
theorem Rep.many : ∀ (n : Nat) (r : RunS) (ms bs : List Int), r.Ok → Rep r ms → bs.length ≤ n → Rep (RunS.many n r bs).1 (ms ++ bs)
  | 0, r, ms, bs, _, h, hn => by
    have : bs = [] := List.eq_nil_of_length_eq_zero (by omega)
    subst this
    rw [List.append_nil]
    exact h
  | n + 1, r, ms, bs, hr, h, hn => by
    unfold RunS.many
    split
    · rw [List.append_nil]; exact h
    · rename_i b bs
      have hp := wTk_pos hr (bs := b :: bs) (by simp)
      have hb : (b :: bs) = wTk r.came (b :: bs) ++ (b :: bs).drop (wTk r.came (b :: bs)).length := by
        unfold wTk
        rw [List.length_take]
        by_cases h : 64 - wAt r.came ≤ (b :: bs).length
        · rw [Nat.min_eq_left h, List.take_append_drop]
        · rw [Nat.min_eq_right (by omega), List.take_of_length_le (by omega), List.drop_length, List.append_nil]
      have := Rep.many n _ _ ((b :: bs).drop (wTk r.came (b :: bs)).length) (hr.one _) (h.one (b :: bs)) (by rw [List.length_drop]; simp only [List.length_cons] at hn ⊢; omega)
      rw [List.append_assoc, ← hb] at this
      exact this
theorem Rep.write {r : RunS} {ms : List Int} (hr : r.Ok) (h : Rep r ms) (bs : List Int) : Rep (r.write bs) (ms ++ bs) := by
  unfold RunS.write
  exact Rep.many _ _ _ _ hr h (Nat.le_refl _)
theorem Rep.init : Rep initR [] := ⟨rfl, rfl, rfl, rfl⟩
def refPad (bs : List Int) : List Int := bs ++ padB bs.length ++ len8 bs.length
def shaAll (P : List Int → List Int → List Int) (bs : List Int) : List Int := hashB (blks P ((refPad bs).length / 64) initR.st (refPad bs))
theorem Rep.fin {r : RunS} {ms : List Int} (hr : r.Ok) (h : Rep r ms) : r.fin = shaAll press ms := by
  have h1 := h.write hr (padB r.came)
  have h2 := h1.write (write_ok _ _ hr) (len8 r.came)
  unfold RunS.fin shaAll
  rw [h2.st, h.came]
  rfl
theorem sha1_all (bs : List Int) : sha1 bs = shaAll press bs := by
  unfold sha1
  have := Rep.init.write initR_ok bs
  exact this.fin (write_ok _ _ initR_ok)
theorem sha2_all (a b : List Int) : sha2 a b = sha1 (a ++ b) := by
  rw [sha1_all]
  unfold sha2
  have h1 := Rep.init.write initR_ok a
  have h2 := h1.write (write_ok _ _ initR_ok) b
  exact h2.fin (write_ok _ _ (write_ok _ _ initR_ok))
theorem initR_W8 : W8 initR.st := by
  refine ⟨rfl, fun x hx => ?_⟩
  simp only [initR, List.mem_cons, List.not_mem_nil, or_false] at hx
  unfold U32
  rcases hx with rfl | rfl | rfl | rfl | rfl | rfl | rfl | rfl <;> omega
theorem padB_U8 (n : Int) : ∀ x ∈ padB n, U8 x := by
  intro x hx
  unfold padB at hx
  rcases List.mem_append.mp hx with h | h
  · rw [List.mem_singleton] at h
    subst h
    unfold U8; omega
  · rw [List.eq_of_mem_replicate h]
    unfold U8; omega
theorem wr8_U8 (x : Int) : U8 (IntKind.u8.wrap x) := by rw [wr8]; unfold U8; omega
theorem len8_U8 (n : Int) : ∀ x ∈ len8 n, U8 x := by
  intro x hx
  unfold len8 told8 at hx
  simp only [List.mem_cons, List.not_mem_nil, or_false] at hx
  rcases hx with h | h | h | h | h | h | h | h <;> rw [h] <;> exact wr8_U8 _
theorem refPad_U8 {bs : List Int} (h : ∀ x ∈ bs, U8 x) : ∀ x ∈ refPad bs, U8 x := by
  intro x hx
  unfold refPad at hx
  rcases List.mem_append.mp hx with h1 | h1
  · rcases List.mem_append.mp h1 with h2 | h2
    · exact h x h2
    · exact padB_U8 _ x h2
  · exact len8_U8 _ x h1
theorem told4_U8 (n : Int) : ∀ x ∈ told4 n, U8 x := by
  intro x hx
  unfold told4 at hx
  simp only [List.mem_cons, List.not_mem_nil, or_false] at hx
  rcases hx with h | h | h | h <;> rw [h] <;> exact wr8_U8 _
theorem hashB_U8 (st : List Int) : ∀ x ∈ hashB st, U8 x := by
  intro x hx
  unfold hashB at hx
  simp only [List.mem_append] at hx
  rcases hx with (((((((h | h) | h) | h) | h) | h) | h) | h) <;> exact told4_U8 _ x h
theorem sha1_U8 (bs : List Int) : ∀ x ∈ sha1 bs, U8 x := by rw [sha1_all]; exact hashB_U8 _
end Go.Tk
end
section
namespace Go.Tk
theorem pressOk : PressOk refPress := ⟨fun st bl h => pressr_pure st bl h, fun _ _ h => refPress_len h⟩
theorem toN_succ (x : List Int) (i : Nat) : toN x (i + 1) = ((((toN x i).set (4 * i) (IntKind.u8.wrap (IntKind.u32.wrap (Int.tdiv (x.getD i 0) 16777216)))).set (4 * i + 1) (toE (x.getD i 0) 65536)).set (4 * i + 2) (toE (x.getD i 0) 256)).set (4 * i + 3) (IntKind.u8.wrap (Int.tmod (x.getD i 0) 256)) := by rw [toN]
theorem toN_zero (x : List Int) : toN x 0 = zero32 := by rw [toN]
def four (x : Int) : List Int := [IntKind.u8.wrap (IntKind.u32.wrap (Int.tdiv x 16777216)), toE x 65536, toE x 256, IntKind.u8.wrap (Int.tmod x 256)]
theorem toldX_len (x : List Int) : (toldX x).length = 32 := by unfold toldX; exact toN_len x 8
theorem toldX_four (x : List Int) (h : x.length = 8) : toldX x = four (x.getD 0 0) ++ four (x.getD 1 0) ++ four (x.getD 2 0) ++ four (x.getD 3 0) ++ four (x.getD 4 0) ++ four (x.getD 5 0) ++ four (x.getD 6 0) ++ four (x.getD 7 0) := by
  unfold toldX
  simp only [toN_succ, toN_zero]
  generalize x.getD 0 0 = x0
  generalize x.getD 1 0 = x1
  generalize x.getD 2 0 = x2
  generalize x.getD 3 0 = x3
  generalize x.getD 4 0 = x4
  generalize x.getD 5 0 = x5
  generalize x.getD 6 0 = x6
  generalize x.getD 7 0 = x7
  kernel_rfl
theorem wr64 (x : Int) : IntKind.u64.wrap x = x % 18446744073709551616 := by
  unfold IntKind.wrap
  simp [IntKind.bits, IntKind.signed]
theorem shr64 (x n : Nat) (hn : n ≤ 64) : shrI .u64 x n = ((x / 2 ^ n : Nat) : Int) := by
  unfold shrI
  have : min (n : Int).toNat IntKind.u64.bits = n := by simp [IntKind.bits]; omega
  rw [this, Int.fdiv_eq_ediv_of_nonneg _ (Int.le_of_lt (Int.pow_pos (by decide)))]
  simp
theorem four_told {x : Int} (h : U32 x) : four x = told4 (IntKind.u64.wrap x) := by
  obtain ⟨x, rfl, gx⟩ := h.nat
  have e : IntKind.u64.wrap (x : Int) = x := by rw [wr64]; omega
  have s24 := shr64 x 24 (by omega)
  have s16 := shr64 x 16 (by omega)
  have s8 := shr64 x 8 (by omega)
  have s0 := shr64 x 0 (by omega)
  rw [show ((24 : Nat) : Int) = 24 from rfl] at s24
  rw [show ((16 : Nat) : Int) = 16 from rfl] at s16
  rw [show ((8 : Nat) : Int) = 8 from rfl] at s8
  rw [show ((0 : Nat) : Int) = 0 from rfl] at s0
  have d1 : Int.tdiv (x : Int) 16777216 = (x : Int) / 16777216 := Int.tdiv_eq_ediv_of_nonneg (by omega)
  have d2 : Int.tdiv (x : Int) 65536 = (x : Int) / 65536 := Int.tdiv_eq_ediv_of_nonneg (by omega)
  have d3 : Int.tdiv (x : Int) 256 = (x : Int) / 256 := Int.tdiv_eq_ediv_of_nonneg (by omega)
  unfold four told4 toE
  rw [e, s24, s16, s8, s0, d1, d2, d3]
  simp only [wr8, wr32]
  rw [tm (a := (x : Int) / 65536 % 4294967296) (by omega), tm (a := (x : Int) / 256 % 4294967296) (by omega), tm (a := (x : Int)) (by omega)]
  simp only [List.cons.injEq, and_true]
  omega
theorem toldX_hash {x : List Int} (h : W8 x) : toldX x = hashB x := by
  rw [toldX_four x h.1]
  unfold hashB
  rw [four_told (h.get 0), four_told (h.get 1), four_told (h.get 2), four_told (h.get 3), four_told (h.get 4), four_told (h.get 5), four_told (h.get 6), four_told (h.get 7)]
theorem padE_told (n : Nat) (i : Nat) (hi : i < 8) : padE n i = IntKind.u8.wrap (shrI .u64 (IntKind.u64.wrap (IntKind.u64.wrap n * 8)) ((56 - 8 * i : Nat) : Int)) := by
  unfold padE
  have e1 : IntKind.i64.wrap (8 * (i : Int)) = 8 * (i : Int) := w64 (by omega)
  have e2 : IntKind.i64.wrap (56 - 8 * (i : Int)) = ((56 - 8 * i : Nat) : Int) := by rw [w64 (by omega)]; omega
  have e3 : IntKind.u64.wrap ((56 - 8 * i : Nat) : Int) = ((56 - 8 * i : Nat) : Int) := by rw [wr64]; omega
  rw [e1, e2, e3]
  obtain ⟨m, hm⟩ : ∃ m : Nat, IntKind.u64.wrap (IntKind.u64.wrap n * 8) = m := ⟨(IntKind.u64.wrap (IntKind.u64.wrap n * 8)).toNat, by rw [wr64, wr64]; omega⟩
  rw [hm, shr64 m _ (by omega)]
  generalize m / 2 ^ (56 - 8 * i) = q
  rw [tm (by omega), wr8, wr8]
  omega
theorem padN_len8 (n : Nat) : padN n 8 = len8 n := by
  simp only [padN, List.nil_append, List.cons_append]
  unfold len8 told8
  rw [padE_told n 0 (by omega), padE_told n 1 (by omega), padE_told n 2 (by omega), padE_told n 3 (by omega), padE_told n 4 (by omega), padE_told n 5 (by omega), padE_told n 6 (by omega), padE_told n 7 (by omega)]
  rfl
theorem padZ_padB (n : Nat) (h : n ≤ 100000000000) : [128] ++ padZ n = padB n := by
  unfold padZ padB
  have e1 : Int.tmod (n : Int) 64 = (n : Int) % 64 := tm (by omega)
  have e2 : IntKind.i64.wrap (119 - (n : Int) % 64) = 119 - (n : Int) % 64 := w64 (by omega)
  rw [padX n h, e1, e2, tm (by omega)]
  congr 2
  omega
theorem padR_pad (bs : List Int) (h : bs.length ≤ 100000000000) : padR bs = refPad bs := by
  unfold padR refPad
  rw [padN_len8, List.append_assoc bs, padZ_padB _ h]
theorem sumN_blks (P : List Int → List Int → List Int) (ys : List Int) : ∀ i, sumN P ys i = blks P i initR.st ys
  | 0 => sumN_zero P ys
  | i + 1 => by rw [sumN_succ, blks_succ, sumN_blks P ys i]
theorem blks_W8 : ∀ (n : Nat) (st ms : List Int), W8 st → W8 (blks press n st ms)
  | 0, _, _, h => h
  | n + 1, st, _, h => blks_W8 n _ _ (press_W8 st _ h.1)
@[irreducible] def sumD (bs : List Int) : List Int := rSum refPress bs
theorem sumD_len (bs : List Int) : (sumD bs).length = 32 := by unfold sumD rSum; exact toldX_len _
theorem sumD_eq {bs : List Int} (h : ∀ x ∈ bs, U8 x) (hl : bs.length ≤ 100000000000) : sumD bs = sha1 bs := by
  unfold sumD rSum
  rw [sumN_blks, padR_pad bs hl, blks_congr _ _ _ initR_W8 (refPad_U8 h), toldX_hash (blks_W8 _ _ _ initR_W8), sha1_all]
  rfl
theorem sumD_pure (xs : List Int) (h : xs.length ≤ 100000000000) : Pure PP 58 [.vints .u8 xs xs.length] (.agg [.arr .u8 32 (sumD xs)]) 0 [] := by
  unfold sumD
  exact sumr_pure pressOk xs h
theorem xorN_eq (c : Int) (b : List Int) : ∀ i, i ≤ b.length → xorN c b i = (b.take i).map (fun x => bXor .u8 x c) ++ b.drop i
  | 0, _ => by rw [xorN_zero]; simp
  | i + 1, h => by
    rw [xorN_succ, xorN_eq c b i (by omega)]
    unfold xorAt
    have hl : ((b.take i).map (fun x => bXor .u8 x c)).length = i := by rw [List.length_map, List.length_take]; omega
    obtain ⟨y, hy⟩ : ∃ y, b[i]? = some y := ⟨b[i], List.getElem?_eq_getElem (by omega)⟩
    have hd : b.drop i = y :: b.drop (i + 1) := by
      rw [List.drop_eq_getElem_cons (by omega)]
      congr 1
      have := List.getElem?_eq_getElem (l := b) (i := i) (by omega)
      rw [this] at hy
      exact Option.some.inj hy
    rw [hd, Nat.zero_add, List.getD_eq_getElem?_getD, List.getElem?_append_right (by omega), hl, Nat.sub_self, List.set_append_right _ _ (by omega), hl, Nat.sub_self]
    rw [List.take_add_one, hy]
    simp
theorem xorL_map (c : Int) (b : List Int) (h : b.length = 64) : xorL c b = b.map (fun x => bXor .u8 x c) := by
  unfold xorL
  rw [xorN_eq c b 64 (by omega), ← h, List.take_length, List.drop_length, List.append_nil]
theorem kxR_map (key : List Int) (c : Int) (hk : key.length = 32) (h0 : bXor .u8 0 c = c) : ∀ i, i ≤ 64 → kxR key c i = ((key ++ List.replicate 32 0).take i).map (fun x => bXor .u8 x c)
  | 0, _ => by rw [kxR]; rfl
  | i + 1, h => by
    rw [kxR, kxR_map key c hk h0 i (by omega), List.take_add_one, List.map_append]
    congr 1
    unfold kxE
    by_cases hi : i < 32
    · rw [if_pos (by omega), List.getElem?_append_left (by omega), List.getD_eq_getElem?_getD, List.getElem?_eq_getElem (by omega)]
      rfl
    · rw [if_neg (by omega), List.getElem?_append_right (by omega), List.getElem?_replicate, if_pos (by omega)]
      simp [h0]
theorem keyB_app (key : List Int) (hk : key.length = 32) : keyB key = key ++ List.replicate 32 0 := by
  have e1 : List.take 32 key = key := List.take_of_length_le (by rw [hk]; exact Nat.le_refl _)
  have e2 : List.take 64 key = key := List.take_of_length_le (by rw [hk]; omega)
  unfold keyB spl
  rw [e1, e2, hk]
  rfl
theorem kx_xor (key : List Int) (c : Int) (hk : key.length = 32) (h0 : bXor .u8 0 c = c) : kxR key c 64 = xorL c (keyB key) := by
  rw [xorL_map c _ (keyB_len key), kxR_map key c hk h0 64 (by omega), keyB_app key hk, List.take_of_length_le (by simp [hk])]
theorem map_U8 (c : Int) (b : List Int) : ∀ x ∈ b.map (fun x => bXor .u8 x c), U8 x := by
  intro x hx
  obtain ⟨y, _, rfl⟩ := List.mem_map.mp hx
  exact wr8_U8 _
theorem app_U8 {a b : List Int} (ha : ∀ x ∈ a, U8 x) (hb : ∀ x ∈ b, U8 x) : ∀ x ∈ a ++ b, U8 x := fun x hx => (List.mem_append.mp hx).elim (ha x) (hb x)
theorem hmac_eq {key ms : List Int} (hk : key.length = 32) (hm : ms.length = 32) (hU : ∀ x ∈ ms, U8 x) : hmacR sumD key ms = hmac1 key ms := by
  have k1 := kx_xor key 92 hk (by decide)
  have k2 := kx_xor key 54 hk (by decide)
  have l1 := xorL_len 92 _ (keyB_len key)
  have l2 := xorL_len 54 _ (keyB_len key)
  have u1 : ∀ x ∈ xorL 92 (keyB key), U8 x := by rw [xorL_map _ _ (keyB_len key)]; exact map_U8 _ _
  have u2 : ∀ x ∈ xorL 54 (keyB key), U8 x := by rw [xorL_map _ _ (keyB_len key)]; exact map_U8 _ _
  unfold hmacR hmac1
  rw [k1, k2, sha2_all]
  have h2 : ((initR.write (xorL 54 (keyB key))).write ms).fin = sha1 (xorL 54 (keyB key) ++ ms) := by
    rw [← sha2_all]; unfold sha2; rfl
  rw [h2, sumD_eq (bs := xorL 54 (keyB key) ++ ms) (app_U8 u2 hU) (by rw [List.length_append, l2, hm]; decide)]
  rw [sumD_eq (app_U8 u1 (sha1_U8 _)) (by rw [List.length_append, l1, sha1_len]; decide)]
theorem pointS_U8 : ∀ x ∈ pointS, U8 x := by
  intro x hx
  unfold pointS at hx
  simp only [List.mem_cons, List.not_mem_nil, or_false] at hx
  unfold U8
  rcases hx with rfl | rfl | rfl | rfl | rfl <;> omega
theorem point_eq {s : List Int} (hs : s.length = 32) (hU : ∀ x ∈ s, U8 x) : pointR sumD s = pointH s := by
  have e1 : sumD [112, 111, 105, 110, 116] = sha1 pointS := sumD_eq pointS_U8 (by decide)
  unfold pointR
  rw [e1, sumD_eq (app_U8 (app_U8 (sha1_U8 _) (sha1_U8 _)) hU) (by rw [List.length_append, List.length_append, sha1_len, hs]; decide), sha1_all]
  unfold pointH
  have h1 := Rep.init.write initR_ok (sha1 pointS)
  have o1 := write_ok initR (sha1 pointS) initR_ok
  have h2 := h1.write o1 (sha1 pointS)
  have o2 := write_ok _ (sha1 pointS) o1
  have h3 := h2.write o2 s
  rw [h3.fin (write_ok _ _ o2), List.nil_append]
theorem twice_eq {bs : List Int} (h : ∀ x ∈ bs, U8 x) (hl : bs.length ≤ 100000000000) : twiceR sumD bs = shaT2 bs := by
  unfold twiceR shaT2
  rw [sumD_eq h hl, sumD_eq (sha1_U8 _) (by rw [sha1_len]; decide)]
end Go.Tk
end
section
namespace Go.Tk
noncomputable def E60 (R : TxS → Bool → List Int) (H : List Int → List Int) (T2 : List Int → List Int → List Int) (B : Nat) : Env2 := ((G0.withF 48 (rawF R)).withP 52 (hashS H B)).withP 53 (tagRS T2)
set_option maxRecDepth 100000 in
set_option maxHeartbeats 0 in
theorem nmr_1 (R : TxS → Bool → List Int) (H : List Int → List Int) (T2 : List Int → List Int → List Int) (B : Nat) (t : TxS) (r : List Int) (ht : t.Fine) (hb : (R t true).length ≤ B) (hr : r = H (R t true)) :
    evF (E60 R H T2 B) 20 20 [.agg t.c] ⟨0, []⟩ (outM 0 (.ret (.agg [.arr .u8 32 r])) 0 []) := by
  refine @Eq.mpr _ (let q1 := t.N;
 let q2 := t.M;
 ∃ (t_1 : TxS),
 let q5 := List.length (R t_1 true);
 let q6 := List.take q5 (dropZ 0 (R t_1 true));
 let q7 := List.length q6;
 (t_1.num = t.num ∧ ((q1 = q1 ∧ t_1.N = q1) ∧ ∀ (i : Nat), i < q1 → inRows t.ins i = InS.c (t_1.ins i)) ∧ (q2 = q2 ∧ t_1.M = q2) ∧ ∀ (i : Nat), i < q2 → outRows t.outs i = OutS.c (t_1.outs i)) ∧ TxS.Fine t_1 ∧ iteB (decide (0 + q5 ≤ q5)) (iteB (decide (q5 = q7)) (iteB (decide (q7 ≤ B)) (H q6 = r ∧ True) False) False) False) (by kernel_rfl) ?_
  conv => zeta
  try simp only [need_eq]
  try simp only [nope_eq]
  try simp only [iteD_eq]
  try simp only [iteT_eq]
  try simp only [iteF_eq]
  try simp only [iteE_eq]
  try simp only [Int.toNat_natCast, Nat.zero_add, true_and, and_true, Nat.le_refl]
  refine ⟨t, ⟨rfl, ⟨rfl, fun _ _ => rfl⟩, rfl, fun _ _ => rfl⟩, ht, ?_⟩
  rw [take_dz rfl]
  exact ⟨rfl, hb, hr.symm⟩
set_option maxRecDepth 100000 in
set_option maxHeartbeats 0 in
theorem tgr_1 (R : TxS → Bool → List Int) (H : List Int → List Int) (T2 : List Int → List Int → List Int) (B : Nat) (t : TxS) (key r : List Int) (ht : t.Fine) (hk : key.length = 32) (hb : (R t true).length ≤ B) (hl : (H (R t true)).length = 32) (hr : r = T2 key (H (R t true))) :
    evF (E60 R H T2 B) 20 21 [.agg t.c, .agg [.arr .u8 32 key]] ⟨0, []⟩ (outM 0 (.ret (.agg [.arr .u8 32 r])) 0 []) := by
  refine @Eq.mpr _ (let q1 := t.N;
 let q2 := t.M;
 ∃ (t_1 : TxS),
 let q5 := List.length (R t_1 true);
 let q6 := List.take q5 (dropZ 0 (R t_1 true));
 let q7 := List.length q6;
 let q8 := H q6;
 (t_1.num = t.num ∧ ((q1 = q1 ∧ t_1.N = q1) ∧ ∀ (i : Nat), i < q1 → inRows t.ins i = InS.c (t_1.ins i)) ∧ (q2 = q2 ∧ t_1.M = q2) ∧ ∀ (i : Nat), i < q2 → outRows t.outs i = OutS.c (t_1.outs i)) ∧ TxS.Fine t_1 ∧ iteB (decide (0 + q5 ≤ q5)) (iteB (decide (q5 = q7)) (iteB (decide (q7 ≤ B)) (iteB (decide (List.length key = 32)) (iteB (decide (List.length q8 = 32)) (iteB (decide (List.length key = 32 ∧ (32 : Nat) = 32 ∧ List.length q8 = 32 ∧ (32 : Nat) = 32)) (T2 key q8 = r ∧ True) False) False) False) False) False) False) (by kernel_rfl) ?_
  conv => zeta
  try simp only [need_eq]
  try simp only [nope_eq]
  try simp only [iteD_eq]
  try simp only [iteT_eq]
  try simp only [iteF_eq]
  try simp only [iteE_eq]
  try simp only [Int.toNat_natCast, Nat.zero_add, true_and, and_true, Nat.le_refl]
  refine ⟨t, ⟨rfl, ⟨rfl, fun _ _ => rfl⟩, rfl, fun _ _ => rfl⟩, ht, ?_⟩
  rw [take_dz rfl]
  repeat' (first | (refine And.intro ?_ ?_) | intro _)
  all_goals first | omega | assumption | trivial | exact hr.symm
def nameRS (Nm : TxS → List Int) : PSumm := fun args h K => viewL none h true 20 args fun a => match a with
  | [.agg l] => ∃ t, isTx l t ∧ t.Fine ∧ K (.agg [.arr .u8 32 (Nm t)])
  | _ => False
def tagtRS (Tg : List Int → TxS → List Int) : PSumm := fun args h K => viewL none h true 20 args fun a => match a with
  | [.agg l, .agg [.arr .u8 32 key]] => ∃ t, isTx l t ∧ (t.Fine ∧ key.length = 32) ∧ K (.agg [.arr .u8 32 (Tg key t)])
  | _ => False
structure HashOk (H : List Int → List Int) (T2 : List Int → List Int → List Int) : Prop where
  h : ∀ args h K, hashS H 100000 args h K → CallsA PP 52 args h fun o h' => ∃ v, o = .ret v ∧ h' = h ∧ K v
  t : ∀ args h K, tagRS T2 args h K → CallsA PP 53 args h fun o h' => ∃ v, o = .ret v ∧ h' = h ∧ K v
  r : ∀ args h K, rawF (rawT numW) args h K → CallsA PP 48 args h K
  hl : ∀ x, (H x).length = 32
theorem E60_ok {H : List Int → List Int} {T2 : List Int → List Int → List Int} (hp : HashOk H T2) : (E60 (rawT numW) H T2 100000).Ok := Env2.withP_ok (Env2.withP_ok (Env2.withF_ok G0_ok hp.r) hp.h) hp.t
@[irreducible] def nameR (H : List Int → List Int) (t : TxS) : List Int := H (rawT numW t true)
@[irreducible] def tagtR (H : List Int → List Int) (T2 : List Int → List Int → List Int) (key : List Int) (t : TxS) : List Int := T2 key (H (rawT numW t true))
theorem tagr1_pure {H : List Int → List Int} {T2 : List Int → List Int → List Int} (hp : HashOk H T2) (t : TxS) (key : List Int) (ht : t.Fine) (hk : key.length = 32) : Pure PP 21 [.agg t.c, .agg [.arr .u8 32 key]] (.agg [.arr .u8 32 (tagtR H T2 key t)]) 0 [] := by
  unfold tagtR
  have := rawO_len ht true (Nat.le_refl t.M)
  exact .evM (E60_ok hp) (tgr_1 (rawT numW) H T2 100000 t key _ ht hk (by have hb' : (rawT numW t true).length ≤ 20000 := this; omega) (hp.hl _) rfl)
theorem tagtRS_ok {H : List Int → List Int} {T2 : List Int → List Int → List Int} (hp : HashOk H T2) (args : List AV) (h : Heap) (K : AV → Prop) (hl : tagtRS (tagtR H T2) args h K) : CallsA PP 21 args h fun o h' => ∃ v, o = .ret v ∧ h' = h ∧ K v := by
  refine Pure.psumm (d := 20) (viewL_weak _ _ _ _ _ hl fun a ha => ?_)
  split at ha
  · obtain ⟨t, h1, ⟨h2, h3⟩, hK⟩ := ha
    exact ⟨_, (tagr1_pure hp t _ h2 h3).conv fun E r hr => hr.head (fun _ hc => h1.rel hc) (fun _ hc => hc), fun _ => rfl, hK⟩
  · exact ha.elim
noncomputable def E60b (Tg : List Int → TxS → List Int) : Env2 := G0.withP 21 (tagtRS Tg)
set_option maxRecDepth 100000 in
set_option maxHeartbeats 0 in
theorem by_1 (Tg : List Int → TxS → List Int) (t : TxS) (tag key : List Int) (b : Bool) (ht : t.Fine) (hk : key.length = 32) (hg : tag.length = 32) (hl : ∀ k t, (Tg k t).length = 32) (hb : b = (tag == Tg key t)) :
    evF (E60b Tg) 20 56 [.agg t.c, .agg [.arr .u8 32 tag], .agg [.arr .u8 32 key]] ⟨0, []⟩ (outM 0 (.ret (.bool b)) 0 []) := by
  refine @Eq.mpr _ (let q1 := t.N;
 let q2 := t.M;
 ∃ (t_1 : TxS), (t_1.num = t.num ∧ ((q1 = q1 ∧ t_1.N = q1) ∧ ∀ (i : Nat), i < q1 → inRows t.ins i = InS.c (t_1.ins i)) ∧ (q2 = q2 ∧ t_1.M = q2) ∧ ∀ (i : Nat), i < q2 → outRows t.outs i = OutS.c (t_1.outs i)) ∧ (TxS.Fine t_1 ∧ List.length key = 32) ∧ iteB (decide (List.length tag = 32 ∧ List.length (Tg key t_1) = 32)) (iteB (decide ((tag == Tg key t_1) = b)) True False) False) (by kernel_rfl) ?_
  conv => zeta
  try simp only [need_eq]
  try simp only [nope_eq]
  try simp only [iteD_eq]
  try simp only [iteT_eq]
  try simp only [iteF_eq]
  try simp only [iteE_eq]
  try simp only [Int.toNat_natCast, Nat.zero_add, true_and, and_true, Nat.le_refl]
  subst hb
  exact ⟨t, ⟨rfl, ⟨rfl, fun _ _ => rfl⟩, rfl, fun _ _ => rfl⟩, ⟨ht, hk⟩, ⟨hg, hl key t⟩, rfl⟩
def byRS (Tg : List Int → TxS → List Int) : PSumm := fun args h K => viewL none h true 20 args fun a => match a with
  | [.agg l, .agg [.arr .u8 32 tag], .agg [.arr .u8 32 key]] => ∃ t, isTx l t ∧ (t.Fine ∧ tag.length = 32 ∧ key.length = 32) ∧ K (.bool (tag == Tg key t))
  | _ => False
theorem byRS_ok {H : List Int → List Int} {T2 : List Int → List Int → List Int} (hp : HashOk H T2) (h2 : ∀ a b, (T2 a b).length = 32) (args : List AV) (h : Heap) (K : AV → Prop) (hl : byRS (tagtR H T2) args h K) : CallsA PP 56 args h fun o h' => ∃ v, o = .ret v ∧ h' = h ∧ K v := by
  refine Pure.psumm (d := 20) (viewL_weak _ _ _ _ _ hl fun a ha => ?_)
  split at ha
  · obtain ⟨t, h1, ⟨h3, h4, h5⟩, hK⟩ := ha
    exact ⟨_, (Pure.evM (Env2.withP_ok G0_ok (tagtRS_ok hp)) (by_1 _ t _ _ _ h3 h5 h4 (fun k t => by unfold tagtR; exact h2 _ _) rfl)).conv fun E r hr => hr.head (fun _ hc => h1.rel hc) (fun _ hc => hc), fun _ => rfl, hK⟩
  · exact ha.elim
end Go.Tk
end
section
namespace Go.Tk
noncomputable def E61 (A : List Int → Int × Int) (R : OutS → Bool) (Tg : List Int → TxS → List Int) (PH H1 : List Int → List Int) (B : Nat) : Env2 := ((((G0.withP 16 (rightS A)).withP 46 (out46S R)).withP 56 (byRS Tg)).withP 57 (hash1S PH)).withP 58 (hashS H1 B)
set_option maxRecDepth 100000 in
set_option maxHeartbeats 0 in
theorem sp_1 (A : List Int → Int × Int) (Nm : TxS → List Int) (T2 : List Int → List Int → List Int) (H1 PH : List Int → List Int) (B : Nat) (R : OutS → Bool) (Tg : List Int → TxS → List Int) (t : TxS) (at_ : Int) (o : OutS) (since height : Int) (F : Int) (ht : t.Ok) (hb : TxB t) (ho : o.Ok) (ob1 : Bytes o.owner) (ob2 : Bytes o.other) (hB : 32 ≤ B) (hR : R o = true → 1 ≤ o.kind ∧ o.kind ≤ 5) (hfine : ckTx A t = true → t.Fine) (hTg : ∀ k t, Tg k t = T2 k (Nm t)) (hT : ∀ a b, (T2 a b).length = 32) (hH : ∀ a, (H1 a).length = 32) (hP : ∀ a, (PH a).length = 32) (hs : -9223372036854775808 ≤ since ∧ since < 9223372036854775808) (hh : -9223372036854775808 ≤ height ∧ height < 9223372036854775808) (hF : F = spendF A Nm T2 H1 PH R t at_ o since height) :
    evF (E61 A R Tg PH H1 B) 20 24 [.agg t.c, .int .i64 at_, .agg o.c, .int .i64 since, .int .i64 height] ⟨0, []⟩ (outM 0 (.ret (.int .i64 F)) 0 []) := by
  refine @Eq.mpr _ (let q1 := t.N;
 let q2 := t.M;
 let q3 := iteB (decide (2 = F)) True False;
 let q4 := ↑q1;
 let q5 := o.owner;
 let q6 := o.other;
 let q7 := o.point;
 let q8 := o.hash;
 let q9 := o.kind;
 let q10 := t.ins (Int.toNat at_);
 let q11 := q10.tag;
 let q12 := List.length q11 = 32;
 let q13 := q10.way;
 let q14 := iteB (decide (171 = F)) True False;
 let q15 := iteB (decide (0 = F)) True False;
 let q16 := q10.also;
 let q17 := q10.secret;
 let q18 := List.length q17;
 let q19 := decide (q18 = 32);
 let q20 := PH q17;
 let q21 := H1 q17;
 let q22 := q9 == 4;
 let q23 := q9 == 5;
 ∃ (t_1 : TxS),
 (t_1.num = t.num ∧ ((q1 = q1 ∧ t_1.N = q1) ∧ ∀ (i : Nat), i < q1 → inRows t.ins i = InS.c (t_1.ins i)) ∧ (q2 = q2 ∧ t_1.M = q2) ∧ ∀ (i : Nat), i < q2 → outRows t.outs i = OutS.c (t_1.outs i)) ∧
 TxS.Ok t_1 ∧
 TxB t_1 ∧
 iteB (!ckTx A t_1) q3
 (iteB (decide (at_ < 0)) q3
 (iteB (decide (at_ ≥ q4)) q3
 (iteB (decide (List.length q5 = 32 ∧ List.length q6 = 32 ∧ List.length q7 = 32 ∧ List.length q8 = 32))
 ((Bytes q5 ∧ Bytes q6) ∧
 iteB (!R (OutS.mk q9 o.amount q5 q6 q7 q8 o.delay o.expiry)) q3
 (iteB (decide (since < 0)) q3
 (iteB (decide (height < since)) q3
 (iteB (decide (0 ≤ at_ ∧ at_ < q4))
 (∃ (t_2 : TxS),
 let q47 := q11 == Tg q5 t_2;
 let q48 := iteB (!q47) q14 q15;
 let q49 := iteB q23 q48 q14;
 (t_2.num = t.num ∧ ((q1 = q1 ∧ t_2.N = q1) ∧ ∀ (i : Nat), i < q1 → inRows t.ins i = InS.c (t_2.ins i)) ∧ (q2 = q2 ∧ t_2.M = q2) ∧ ∀ (i : Nat), i < q2 → outRows t.outs i = OutS.c (t_2.outs i)) ∧
 (TxS.Fine t_2 ∧ q12 ∧ List.length q5 = 32) ∧
 ∃ (t_3 : TxS),
 let q53 := iteB q23 (iteB (!q11 == Tg q6 t_3) q14 q15) q14;
 (t_3.num = t.num ∧ ((q1 = q1 ∧ t_3.N = q1) ∧ ∀ (i : Nat), i < q1 → inRows t.ins i = InS.c (t_3.ins i)) ∧ (q2 = q2 ∧ t_3.M = q2) ∧ ∀ (i : Nat), i < q2 → outRows t.outs i = OutS.c (t_3.outs i)) ∧
 (TxS.Fine t_3 ∧ q12 ∧ List.length q6 = 32) ∧
 iteB (q9 == 1) (iteB (q13 == 2) q48 q14) (iteB (q9 == 2) (iteB (q13 == 1) (iteB q47 (∃ (t_4 : TxS), (t_4.num = t.num ∧ ((q1 = q1 ∧ t_4.N = q1) ∧ ∀ (i : Nat), i < q1 → inRows t.ins i = InS.c (t_4.ins i)) ∧ (q2 = q2 ∧ t_4.M = q2) ∧ ∀ (i : Nat), i < q2 → outRows t.outs i = OutS.c (t_4.outs i)) ∧ (TxS.Fine t_4 ∧ List.length q16 = 32 ∧ List.length q6 = 32) ∧ iteB (!q16 == Tg q6 t_4) q14 q15) q14) q14) (iteB (q13 == 4) (iteB q19 (iteB (decide (List.length q20 = 32 ∧ List.length q7 = 32)) (iteB (!q20 == q7) q14 q15) False) False) (iteB (q9 == 3) (iteB (q13 == 3) (iteB q47 (iteB (!decide (IntKind.wrap IntKind.i64 (height - since) ≥ o.delay)) q14 q15) q14) q14) (iteB (q13 == 5) (iteB q19 (iteB (decide (32 = q18)) (iteB (decide (q18 ≤ B)) (iteB (decide (List.length q21 = 32 ∧ List.length q8 = 32)) (iteB (q21 == q8) (iteB q22 (iteB (q11 == Tg q6 t_3) q15 q49) q49) q14) False) False) False) False) (iteB (q13 == 6) (iteB (decide (height ≥ o.expiry)) (iteB q22 (iteB q47 q15 q53) q53) q14) q14))))))
 False))))
 False)))) (by kernel_rfl) ?_
  conv => zeta
  try simp only [need_eq]
  try simp only [nope_eq]
  try simp only [iteD_eq]
  try simp only [iteT_eq]
  try simp only [iteF_eq]
  try simp only [iteE_eq]
  try simp only [Int.toNat_natCast, Nat.zero_add, true_and, and_true, Nat.le_refl]
  have hrow : (t.num = t.num ∧ (t.N = t.N ∧ ∀ (i : Nat), i < t.N → inRows t.ins i = (t.ins i).c) ∧ t.M = t.M ∧ ∀ (i : Nat), i < t.M → outRows t.outs i = (t.outs i).c) := ⟨rfl, ⟨rfl, fun _ _ => rfl⟩, rfl, fun _ _ => rfl⟩
  obtain ⟨o1, o2, o3, o4⟩ := ho
  refine ⟨t, hrow, ht, hb, fun hc => (by rw [hF, spendF_2 (.inl (by simpa using hc))]), fun hc => ?_⟩
  have hc : ckTx A t = true := by simpa using hc
  refine ⟨fun h1 => (by rw [hF, spendF_2 (by simp [h1])]), fun h1 => ⟨fun h2 => (by rw [hF, spendF_2 (by simp [h2])]), fun h2 => ⟨⟨o1, o2, o3, o4⟩, ⟨ob1, ob2⟩, fun h3 => ?_, fun h3 => ⟨fun h4 => (by rw [hF, spendF_2 (by simp [h4])]), fun h4 => ⟨fun h5 => (by rw [hF, spendF_2 (by simp [h5])]), fun h5 => ⟨⟨by omega, by omega⟩, ?_⟩⟩⟩⟩⟩⟩
  · have h3 : R o = false := by simpa using h3
    rw [hF, spendF_2 (by simp [h3])]
  have h3' : R o = true := by simpa using h3
  have hG := hF.trans (spendF_n (by simp [h3', hc, h2, h5]; omega))
  clear hF
  have hf := hfine hc
  have hk := hR h3'
  obtain ⟨l1, l2, l3, l4⟩ := ht.ins at_.toNat (by omega)
  generalize t.ins at_.toNat = x at *
  refine ⟨t, hrow, ⟨hf, l2, o1⟩, t, hrow, ⟨hf, l2, o2⟩, ?_⟩
  rw [hTg, hTg]
  generalize hnm : Nm t = nm at *
  have hw : IntKind.i64.wrap (height - since) = height - since := w64 (by omega)
  rw [hw]
  unfold rightI at hG
  have q3 := hP x.secret
  have q4 := hH x.secret
  have hsy : ∀ a b : List Int, (a == b) = (b == a) := fun a b => BEq.comm
  rw [hsy x.tag, hsy x.tag]
  clear hT hP hH h3 hR hfine
  repeat' (first | (refine And.intro ?_ ?_) | intro _ | (refine ⟨t, hrow, ⟨hf, l3, o2⟩, ?_⟩; rw [hTg, hnm, hsy x.also]))
  all_goals first | omega | assumption | trivial | skip
  all_goals (rw [hG]; clear hG hTg hrow; simp_all)
  all_goals first | omega | (split <;> simp <;> intros <;> omega)
theorem E61_ok {A : List Int → Int × Int} (hA : A = addM) {Tg : List Int → TxS → List Int} {PH H1 : List Int → List Int} {B : Nat}
    (hby : ∀ args h K, byRS Tg args h K → CallsA PP 56 args h fun o h' => ∃ v, o = .ret v ∧ h' = h ∧ K v) (hpo : ∀ args h K, hash1S PH args h K → CallsA PP 57 args h fun o h' => ∃ v, o = .ret v ∧ h' = h ∧ K v)
    (hsu : ∀ args h K, hashS H1 B args h K → CallsA PP 58 args h fun o h' => ∃ v, o = .ret v ∧ h' = h ∧ K v) : (E61 A outRight Tg PH H1 B).Ok := by
  subst hA
  exact Env2.withP_ok (Env2.withP_ok (Env2.withP_ok (Env2.withP_ok (Env2.withP_ok G0_ok rightS_ok) out46_ok) hby) hpo) hsu
def spendRS (F : TxS → Int → OutS → Int → Int → Int) : PSumm := fun args h K => viewL none h true 20 args fun a => match a with
  | [.agg l, .int .i64 at_, .agg cs, .int .i64 since, .int .i64 height] => ∃ t o, isTx l t ∧ cs = OutS.c o ∧ (t.Ok ∧ TxB t ∧ o.Ok ∧ (Bytes o.owner ∧ Bytes o.other) ∧ (-9223372036854775808 ≤ since ∧ since < 9223372036854775808) ∧ -9223372036854775808 ≤ height ∧ height < 9223372036854775808) ∧ K (.int .i64 (F t at_ o since height))
  | _ => False
end Go.Tk
end
section
namespace Go.Tk
theorem Bytes.u8 {xs : List Int} (h : Bytes xs) : ∀ x ∈ xs, U8 x := by
  intro x hx
  obtain ⟨i, hi, rfl⟩ := List.getElem_of_mem hx
  have := h.h i
  rw [List.getD_eq_getElem?_getD, List.getElem?_eq_getElem hi] at this
  simp at this
  unfold U8
  omega
theorem Bytes.of {xs : List Int} (h : ∀ x ∈ xs, U8 x) : Bytes xs := ⟨fun i => by
  have := getD_all (P := U8) h (by unfold U8; omega) i
  unfold U8 at this
  omega⟩
theorem hashOk : HashOk (twiceR sumD) (hmacR sumD) where
  h := fun args h K hl => twiceR_ok (B := 100000) (fun xs hx => sumD_pure xs (by omega)) (by decide) sumD_len args h K hl
  t := fun args h K hl => tagRS_ok (B := 100000) (fun xs hx => sumD_pure xs (by omega)) (by decide) sumD_len args h K hl
  r := bytesrF_ok
  hl := fun x => by unfold twiceR; exact sumD_len _
theorem hmacD_len (a b : List Int) : (hmacR sumD a b).length = 32 := by unfold hmacR; exact sumD_len _
theorem pointD_len (a : List Int) : (pointR sumD a).length = 32 := by unfold pointR; exact sumD_len _
@[irreducible] def nameD (t : TxS) : List Int := nameR (twiceR sumD) t
@[irreducible] def tagD (key : List Int) (t : TxS) : List Int := tagtR (twiceR sumD) (hmacR sumD) key t
theorem tagD_len (k : List Int) (t : TxS) : (tagD k t).length = 32 := by unfold tagD tagtR; exact hmacD_len _ _
theorem tagD_ok (args : List AV) (h : Heap) (K : AV → Prop) (hl : tagtRS tagD args h K) : CallsA PP 21 args h fun o h' => ∃ v, o = .ret v ∧ h' = h ∧ K v := tagtRS_ok hashOk args h K (by
  have e : tagD = tagtR (twiceR sumD) (hmacR sumD) := by funext k t; unfold tagD; rfl
  rw [e] at hl; exact hl)
theorem nameD_eq {t : TxS} (hf : t.Fine) (hb : TxAll t) : nameD t = nameT t := by
  have h1 := rawO_len hf true (Nat.le_refl t.M)
  have h2 : (rawT numW t true).length ≤ 20000 := h1
  unfold nameD nameR nameT
  exact twice_eq (rawT_bytes hb true).u8 (by omega)
theorem shaT2_U8 (bs : List Int) : ∀ x ∈ shaT2 bs, U8 x := by unfold shaT2; exact sha1_U8 _
theorem nameT_U8 (t : TxS) : ∀ x ∈ nameT t, U8 x := by unfold nameT; exact shaT2_U8 _
theorem tagD_hmac (key : List Int) (t : TxS) : tagD key t = hmacR sumD key (nameD t) := by unfold tagD tagtR nameD nameR; rfl
@[irreducible] def spendD (t : TxS) (at_ : Int) (o : OutS) (since height : Int) : Int := spendF addM nameD (hmacR sumD) sumD (pointR sumD) outRight t at_ o since height
@[irreducible] def spendP (t : TxS) (at_ : Int) (o : OutS) (since height : Int) : Int := spendF addM nameT hmac1 sha1 pointH outRight t at_ o since height
theorem outRight_kind {o : OutS} (h : outRight o = true) : 1 ≤ o.kind ∧ o.kind ≤ 5 := (outRight_facts h).1
theorem spendD_ok (args : List AV) (h : Heap) (K : AV → Prop) (hl : spendRS spendD args h K) : CallsA PP 24 args h fun o h' => ∃ v, o = .ret v ∧ h' = h ∧ K v := by
  refine Pure.psumm (d := 20) (viewL_weak _ _ _ _ _ hl fun a ha => ?_)
  split at ha
  · obtain ⟨t, o, h1, rfl, ⟨h2, h3, h4, ⟨h5, h6⟩, h7, h8⟩, hK⟩ := ha
    have hE : (E61 addM outRight tagD (pointR sumD) sumD 100000).Ok := E61_ok rfl (fun args h K hl => byRS_ok hashOk hmacD_len args h K (by
        have e : tagD = tagtR (twiceR sumD) (hmacR sumD) := by funext k t; unfold tagD; rfl
        rw [e] at hl; exact hl))
      (pointRS_ok (B := 100000) (fun xs hx => sumD_pure xs (by omega)) (by decide) sumD_len) (hashS_ok (B := 100000) fun xs hx => sumD_pure xs (by omega))
    exact ⟨_, (Pure.evM hE (sp_1 addM nameD (hmacR sumD) sumD (pointR sumD) 100000 outRight tagD t _ o _ _ _ h2 h3 h4 h5 h6 (by decide) outRight_kind (fun hc => ckTx_fine h2 hc) tagD_hmac hmacD_len sumD_len pointD_len h7 h8 rfl)).conv fun E r hr => hr.head (fun _ hc => h1.rel hc) (fun _ hc => hc), fun _ => rfl, by unfold spendD at hK; exact hK⟩
  · exact ha.elim
theorem spendP_ok (args : List AV) (h : Heap) (K : AV → Prop) (hl : spendS spendP args h K) : CallsA PP 23 args h fun o h' => ∃ v, o = .ret v ∧ h' = h ∧ K v := spendS_ok args h K (by
  have e : spendP = spendF addM nameT hmac1 sha1 pointH outRight := by funext t a o s h; unfold spendP; rfl
  rw [e] at hl; exact hl)
theorem spend_eq {t : TxS} {at_ : Int} {o : OutS} {since height : Int} (ht : t.Ok) (hb : TxAll t) (ho : o.Ok) (hob : o.By) : spendD t at_ o since height = spendP t at_ o since height := by
  unfold spendD spendP
  by_cases h : ckTx addM t = false ∨ at_ < 0 ∨ at_ ≥ t.N ∨ outRight o = false ∨ since < 0 ∨ height < since
  · rw [spendF_2 h, spendF_2 h]
  · rw [spendF_n h, spendF_n h]
    have hc : ckTx addM t = true := by
      cases hc : ckTx addM t with
      | true => rfl
      | false => exact absurd (.inl hc) h
    have hi : at_.toNat < t.N := by
      have h1 : ¬ at_ < 0 := fun h1 => h (.inr (.inl h1))
      have h2 : ¬ at_ ≥ t.N := fun h2 => h (.inr (.inr (.inl h2)))
      omega
    have hf := ckTx_fine ht hc
    have hx := hb.ins _ hi
    have hl := ht.ins _ hi
    have e1 : ∀ k : List Int, k.length = 32 → hmacR sumD k (nameD t) = hmac1 k (nameT t) := fun k hk => by rw [nameD_eq hf hb, hmac_eq hk (nameT_len t) (nameT_U8 t)]
    generalize t.ins at_.toNat = x at *
    have e2 : pointR sumD x.secret = pointH x.secret := point_eq hl.secret hx.secret.u8
    have e3 : sumD x.secret = sha1 x.secret := sumD_eq hx.secret.u8 (by rw [hl.secret]; decide)
    unfold rightI
    rw [e1 _ ho.owner, e1 _ ho.other, e2, e3]
end Go.Tk
end
section
namespace Go.Tk
theorem Emb.more {E : Env} {h h' : Heap} {w : World} (he : Emb E h w) (hn : h.next ≤ h'.next) (hg : ∀ x B, h'.get x = some B → h.get x = some B ∨ (h.next ≤ x ∧ x < h'.next ∧ ∃ sz f, B = .rows sz 0 f)) : Emb E h' w where
  fresh := fun x hx => he.fresh x (by omega)
  lt := fun x B hB => by
    rcases hg x B hB with h1 | ⟨_, h2, _⟩
    · have := he.lt x B h1; omega
    · exact h2
  own := fun x B hB => by
    rcases hg x B hB with h1 | ⟨h1, _, sz, f, rfl⟩
    · exact he.own x B h1
    · exact .rows0 sz 0 f rfl (he.fresh x h1)
  disj := fun x y B B' b N N' hx hy ex ey => by
    rcases hg x B hx with h1 | ⟨h1, _⟩
    · rcases hg y B' hy with h2 | ⟨h2, _⟩
      · exact he.disj x y B B' b N N' h1 h2 ex ey
      · rw [he.fresh y h2] at ey; cases ey
    · rw [he.fresh x h1] at ex; cases ex
  imm := he.imm
  sep := fun a c x B N hi hx ex => by
    rcases hg x B hx with h1 | ⟨h1, _⟩
    · exact he.sep a c x B N hi h1 ex
    · rw [he.fresh x h1] at ex; cases ex
theorem Evo.more {E E' : Env} {h h' h'' : Heap} {w w' : World} (k : Evo E h w E' h' w') (hn : h'.next ≤ h''.next) (hg : ∀ x B, h''.get x = some B → h'.get x = some B ∨ (h'.next ≤ x ∧ x < h''.next ∧ ∃ sz f, B = .rows sz 0 f)) : Evo E h w E' h'' w' where
  le := k.le
  emb := k.emb.more hn hg
  size := k.size
  os := k.os
  tape := k.tape
  output := k.output
  keep := k.keep
  own := fun b ⟨x, B, N, hx, ex⟩ => by
    rcases hg x B hx with h1 | ⟨h1, _⟩
    · exact k.own b ⟨x, B, N, h1, ex⟩
    · rw [k.emb.fresh x h1] at ex; cases ex
  imm := k.imm
end Go.Tk
end
section
namespace Go.Tk
def in77 : InS := ⟨zero32, 77, 0, zero32, zero32, zero32⟩
def out77 : OutS := ⟨0, 77, zero32, zero32, zero32, zero32, 0, 0⟩
def snoc {α : Type} (n : Nat) (g : Nat → α) (x : α) : Nat → α := fun i => if i = n then x else g i
set_option maxRecDepth 100000 in
set_option maxHeartbeats 0 in
theorem cop_1 (t : TxS) (N M N1 M1 : Nat) (f : Nat → InS) (g : Nat → OutS) (hN : N = t.N) (hM : M = t.M) (hN1 : N1 = t.N + 1) (hM1 : M1 = t.M + 1) (h1 : t.N ≤ 30) (h2 : t.M ≤ 30) (hf : f = snoc t.N t.ins in77) (hg : g = snoc t.M t.outs out77) :
    evF G0 20 22 [.agg t.c] ⟨0, []⟩ (outM 0 (.ret (.agg [.int .i64 t.num, .nslice ⟨0, 0, 130, 0, 0⟩ 130 N N1, .nslice ⟨1, 0, 132, 0, 0⟩ 132 M M1])) 2 [(0, .rows 130 N1 (inRows f)), (1, .rows 132 M1 (outRows g))]) := by
  refine @Eq.mpr _ (let q1 := t.N;
 let q2 := ↑q1;
 let q3 := decide (q2 = q2);
 let q4 := decide (q1 = q1);
 let q5 := inRows t.ins;
 let q6 := q5 = q5;
 let q7 := 0 + q1;
 let q8 := decide (q7 * 144 ≤ 140737488355328);
 let q9 := q7 + 1;
 let q10 := t.M;
 let q11 := ↑q10;
 let q12 := decide (q11 = q11);
 let q13 := decide (q10 = q10);
 let q14 := outRows t.outs;
 let q15 := q14 = q14;
 let q16 := 0 + q10;
 let q17 := decide (q16 * 160 ≤ 140737488355328);
 let q18 := q16 + 1;
 let q19 := [(1, 7), (0, 4)];
 let q20 := AV.arr IntKind.u8 32 zero32;
 let q21 := AV.int IntKind.i64 0;
 let q22 := iteB q12 (iteB q13 (q15 ∧ iteB q13 (iteB (decide (q16 = q16)) (iteB (decide (q18 * 160 ≤ 140737488355328)) (iteB q12 (iteB q13 (q15 ∧ iteB q13 (iteB (decide (q18 ≤ q18)) (iteB (decide (0 ≤ q11 ∧ q11 ≤ ↑q18)) (iteB (decide (t.num = t.num)) (iteB (decide (subO (Int.toNat q2) none = N)) (iteB (decide (N1 ≤ subO q9 none)) (iteB (decide (subO (Int.toNat q11) none = M)) (iteB (decide (M1 ≤ subO q18 none)) (iteB (decide (q9 = N1)) (RowsEq 0 q19 N1 (inRows f) (catF q7 (catF 0 (fun (x : Nat) => []) q5) (rowC [q20, AV.int IntKind.i64 77, q21, q20, q20, q20] 0 130)) ∧ iteB (decide (q18 = M1)) (RowsEq 0 q19 M1 (outRows g) (catF q16 (catF 0 (fun (x : Nat) => []) q14) (rowC [q21, AV.int IntKind.i64 77, q20, q20, q20, q20, q21, q21] 0 132)) ∧ True) False) False) False) False) False) False) False) False) False) False) False) False) False) False) False) False) False;
 let q23 := iteB q12 (iteB q13 (q15 ∧ iteB q13 (iteB q13 (q15 ∧ iteB q13 (iteB q17 q22 False) False) False) False) False) False;
 let q24 := iteB q3 (iteB q4 (q6 ∧ iteB q4 (iteB (decide (q7 = q7)) (iteB (decide (q9 * 144 ≤ 140737488355328)) (iteB q3 (iteB q4 (q6 ∧ iteB q4 (iteB (decide (q9 ≤ q9)) (iteB (decide (0 ≤ q2 ∧ q2 ≤ ↑q9)) (iteB q12 (iteB q13 (q15 ∧ iteB q13 (iteB q13 (q15 ∧ iteB q13 (iteB q17 (iteB q12 (iteB q13 (q15 ∧ iteB q13 q22 False) False) False) False ∧ q23) False) False) False) False) False ∧ iteB q12 (iteB q13 (q15 ∧ iteB q13 (iteB q13 (q15 ∧ iteB q13 q23 False) False) False) False) False) False) False) False) False) False) False) False) False) False) False;
 let q25 := iteB q3 (iteB q4 (q6 ∧ iteB q4 (iteB q4 (q6 ∧ iteB q4 (iteB q8 q24 False) False) False) False) False) False;
 iteB q3 (iteB q4 (q6 ∧ iteB q4 (iteB q4 (q6 ∧ iteB q4 (iteB q8 (iteB q3 (iteB q4 (q6 ∧ iteB q4 q24 False) False) False) False ∧ q25) False) False) False) False) False ∧ iteB q3 (iteB q4 (q6 ∧ iteB q4 (iteB q4 (q6 ∧ iteB q4 q25 False) False) False) False) False) (by kernel_rfl) ?_
  conv => zeta
  try simp only [need_eq]
  try simp only [nope_eq]
  try simp only [iteD_eq]
  try simp only [iteT_eq]
  try simp only [iteF_eq]
  try simp only [iteE_eq]
  try simp only [Int.toNat_natCast, Nat.zero_add, true_and, and_true, Nat.le_refl]
  subst hN hM hN1 hM1 hf hg
  have R1 : ∀ τ, RowsEq 0 τ (t.N + 1) (inRows (snoc t.N t.ins in77)) (catF t.N (catF 0 (fun _ => []) (inRows t.ins)) (rowC in77.c 0 130)) := fun τ => inRowsEq fun q hq => by
    have : catF 0 (fun _ => []) (inRows t.ins) = inRows t.ins := funext fun q => by rw [catF_ge (Nat.zero_le _)]; rfl
    rw [this]
    exact catIn (x := in77) hq
  have R2 : ∀ τ, RowsEq 0 τ (t.M + 1) (outRows (snoc t.M t.outs out77)) (catF t.M (catF 0 (fun _ => []) (outRows t.outs)) (rowC out77.c 0 132)) := fun τ => outRowsEq fun q hq => by
    have : catF 0 (fun _ => []) (outRows t.outs) = outRows t.outs := funext fun q => by rw [catF_ge (Nat.zero_le _)]; rfl
    rw [this]
    exact catOut (x := out77) hq
  repeat' (first | (refine And.intro ?_ ?_) | intro _)
  all_goals first | exact R1 _ | exact R2 _ | rfl | (simp only [subO_none, Nat.zero_add]; omega) | omega | trivial | skip
theorem cop_pure (t : TxS) (h1 : t.N ≤ 30) (h2 : t.M ≤ 30) : Pure PP 22 [.agg t.c] (.agg [.int .i64 t.num, .nslice ⟨0, 0, 130, 0, 0⟩ 130 t.N (t.N + 1), .nslice ⟨1, 0, 132, 0, 0⟩ 132 t.M (t.M + 1)]) 2 [(0, .rows 130 (t.N + 1) (inRows (snoc t.N t.ins in77))), (1, .rows 132 (t.M + 1) (outRows (snoc t.M t.outs out77)))] :=
  .evM G0_ok (cop_1 t _ _ _ _ _ _ rfl rfl rfl rfl h1 h2 rfl rfl)
def copS : FSumm := fun args h K => viewL none h true 20 args fun a => match a with
  | [.agg l] => ∃ t, isTx l t ∧ (t.N ≤ 30 ∧ t.M ≤ 30) ∧ K (.ret (.agg [.int .i64 t.num, .nslice ⟨h.next, 0, 130, 0, 0⟩ 130 t.N (t.N + 1), .nslice ⟨h.next + 1, 0, 132, 0, 0⟩ 132 t.M (t.M + 1)])) ⟨h.next + 2, (h.next, .rows 130 (t.N + 1) (inRows (snoc t.N t.ins in77))) :: (h.next + 1, .rows 132 (t.M + 1) (outRows (snoc t.M t.outs out77))) :: h.bs⟩
  | _ => False
theorem copS_ok (args : List AV) (h : Heap) (K : KO) (hl : copS args h K) : CallsA PP 22 args h K := by
  refine Pure.fsumm (d := 20) (viewL_weak _ _ _ _ _ hl fun a ha => ?_)
  split at ha
  · obtain ⟨t, h1, h2, hK⟩ := ha
    exact ⟨_, _, _, _, (cop_pure t h2.1 h2.2).conv fun E r hr => hr.head (fun _ hc => h1.rel hc) (fun _ hc => hc), rfl, ⟨by decide, .rows _ _ _ (fun i _ => (snoc t.N t.ins in77 i).plainC), by decide, .rows _ _ _ (fun i _ => (snoc t.M t.outs out77 i).plainC), trivial⟩, hK⟩
  · exact ha.elim
end Go.Tk
end
section
namespace Go.Tk
end Go.Tk
end
section
namespace Go.Tk
theorem CodeA.join {P : Program} {k : Nat} {ro : Option Nat} {c : Code} {s : St} {X Y : KE} (h : CodeA P k ro c s Y) (hxy : ∀ e s', Y e s' → ∃ s₂, e = .normal ∧ Weak k s' s₂ ∧ X .normal s₂) : CodeA P k ro c s X := by
  intro E0 h0 w0 E a w n hk hs hev
  refine wpIn_mono (h E0 h0 w0 E a w n hk hs hev) ?_
  rintro e a' w' ⟨E', x, s', hx, hev', hs', he⟩
  obtain ⟨s₂, rfl, hw, hX⟩ := hxy x s' hx
  obtain ⟨E₂, hs₂, hev₂⟩ := hw E0 h0 w0 E' a' w' hk hs' hev'
  cases he
  exact ⟨E₂, _, s₂, hX, hev₂, hs₂, .normal⟩
def oneAny (P : Program) (f : FuncId) (id : Nat) : Bool := match P.funcs[f]? with
  | some fn => match fn.body with
    | some b => match codesOf id (blocksOf b) with | [_] => true | _ => false
    | none => false
  | none => false
theorem oneAny_ok {P : Program} {f : FuncId} {id : Nat} (h : oneAny P f id = true) {fn : Func} {body c : Code} (hf : P.funcs[f]? = some fn) (hb : fn.body = some body) (hm : (id, c) ∈ blocksOf body) : c = blockAt P f id := by
  have hc := codesOf_mem hm
  simp only [oneAny, hf, hb] at h
  split at h
  · rename_i d hd
    have hbo : bodyOf P f = body := by simp [bodyOf, hf, hb]
    have hbl : blockAt P f id = d := by unfold blockAt; rw [hbo, hd]
    rw [hd] at hc
    rw [List.mem_singleton] at hc
    rw [hbl]; exact hc
  · cases h
@[irreducible] def codeE (G : Env2) (n : Nat) (f : FuncId) (id : Nat) (k : Nat) (s : St) (X : KE) : Prop := evC G (ctxN G n f none) k (blockAt G.P f id) s X
def joinM (k : Nat) (S0 S1 : St) (C : Prop) : Nat → St → KE → Prop := fun k' s X => match Nat.beq k' k with
  | true => weakM k S0 s (C ∧ X .normal S1)
  | false => False
def jnM (k : Nat) (S1 : St) : KE := fun e s => match e with
  | .normal => weakM k S1 s True
  | _ => False
theorem Env2.withJ {G : Env2} (hG : G.Ok) {f : FuncId} {id k N : Nat} {S0 S1 : St} {C : Prop} (h1 : oneAny G.P f id = true) (hC : C → codeE G N f id k S0 (jnM k S1)) : (G.withL f id (joinM k S0 S1 C)).Ok where
  draw := hG.draw
  psumm := hG.psumm
  fsumm := hG.fsumm
  lsumm := fun f' id' S' fn c body hS hf hb hm k' s X hs => by
    simp only [Env2.withL] at hS
    split at hS
    · rename_i hq
      rw [Bool.and_eq_true] at hq
      have e1 := Nat.eq_of_beq_eq_true hq.1
      have e2 := Nat.eq_of_beq_eq_true hq.2
      subst e1 e2
      cases hS
      have hc := oneAny_ok h1 hf hb hm
      unfold joinM at hs
      split at hs
      · rename_i hk
        have := Nat.eq_of_beq_eq_true hk
        subst this
        obtain ⟨⟨hcC, hX⟩, hw⟩ := weakM_ok hs
        have hE := hC hcC
        unfold codeE at hE
        rw [← hc] at hE
        have hkN := ctxN_ok hG N f' none
        refine CodeA.weak ?_ hw
        refine CodeA.join (evC_ok (k := k') (ro := none) hG hkN.1 (fun _ => rfl) (fun _ => rfl) (fun _ => ⟨fn, body, by rw [hkN.2.1]; exact hf, hb, fun b hbm => blocksOf_trans body id' _ hm b hbm⟩) hE) ?_
        intro e s' hY
        unfold jnM at hY
        split at hY
        · obtain ⟨_, hw'⟩ := weakM_ok hY
          exact ⟨_, rfl, hw', hX⟩
        · exact hY.elim
      · exact hs.elim
    · exact hG.lsumm f' id' S' fn c body hS hf hb hm k' s X hs
end Go.Tk
end
section
namespace Go.Tk
noncomputable def E67 (A : List Int → Int × Int) (Td : List Int → TxS → List Int) (F1 F2 : TxS → Int → OutS → Int → Int → Int) : Env2 := (((((G0.withP 10 worksS).withF 22 copS).withP 16 (rightS A)).withP 21 (tagtRS Td)).withP 23 (spendS F1)).withP 24 (spendRS F2)
theorem E67_ok : (E67 addM tagD spendP spendD).Ok := Env2.withP_ok (Env2.withP_ok (Env2.withP_ok (Env2.withP_ok (Env2.withF_ok (Env2.withP_ok G0_ok worksS_ok) copS_ok) rightS_ok) tagD_ok) spendP_ok) spendD_ok
structure SpS where
  t : TxS
  o : OutS
  i : Int
  since : Int
  height : Int
  tagged : Int
def SpS.tm (y : SpS) : Tmps := [(1, .int .i64 y.i), (3, .int .i64 y.since), (4, .int .i64 y.height), (5, .int .i64 y.tagged), (6, pt 0), (8, pt 1)]
def SpS.tm2 (y : SpS) : Tmps := [(1, .int .i64 y.i), (3, .int .i64 y.since), (4, .int .i64 y.height), (5, .int .i64 y.tagged), (6, pt 0), (8, pt 1), (13, pt 5)]
def SpS.hp (y : SpS) (g : Nat → InS) : List (Nat × Blk) := [(3, .rows 130 (y.t.N + 1) (inRows g)), (4, .rows 132 (y.t.M + 1) (outRows (snoc y.t.M y.t.outs out77))), (1, .flat y.o.c), (0, .flat [.int .i64 y.t.num, .nslice ⟨3, 0, 130, 0, 0⟩ 130 y.t.N (y.t.N + 1), .nslice ⟨4, 0, 132, 0, 0⟩ 132 y.t.M (y.t.M + 1)])]
def SpS.hp2 (y : SpS) (g : Nat → InS) (x : InS) : List (Nat × Blk) := [(5, .flat x.c), (3, .rows 130 (y.t.N + 1) (inRows g)), (4, .rows 132 (y.t.M + 1) (outRows (snoc y.t.M y.t.outs out77))), (1, .flat y.o.c), (0, .flat [.int .i64 y.t.num, .nslice ⟨3, 0, 130, 0, 0⟩ 130 y.t.N (y.t.N + 1), .nslice ⟨4, 0, 132, 0, 0⟩ 132 y.t.M (y.t.M + 1)])]
def SpS.s (y : SpS) (g : Nat → InS) : St := ⟨99, y.tm, ⟨5, y.hp g⟩, []⟩
def SpS.sb (y : SpS) (n : Nat) (b : Bool) (g : Nat → InS) : St := ⟨99, (n, .bool b) :: y.tm, ⟨5, y.hp g⟩, []⟩
def SpS.q (y : SpS) (g : Nat → InS) (x : InS) : St := ⟨99, y.tm2, ⟨6, y.hp2 g x⟩, []⟩
def SpS.qb (y : SpS) (n : Nat) (b : Bool) (g : Nat → InS) (x : InS) : St := ⟨99, (n, .bool b) :: y.tm2, ⟨6, y.hp2 g x⟩, []⟩
noncomputable def E67t (Td : List Int → TxS → List Int) : Env2 := G0.withP 21 (tagtRS Td)
set_option maxRecDepth 100000 in
set_option maxHeartbeats 0 in
theorem sp_45 (Td : List Int → TxS → List Int) (y : SpS) (b : Bool) (g : Nat → InS) (x : InS) (ta : List Int) (hg : ∀ i, i < y.t.N → g i = y.t.ins i) (lo : y.o.owner.length = 32) (hf : b = true → y.t.Fine) (h1 : b = true → ta = Td y.o.owner y.t) (h2 : b = false → ta = x.tag) :
    codeE (E67t Td) 20 6 100045 0 (y.qb 45 b g x) (jnM 0 (y.q g ⟨x.name, x.index, x.way, ta, x.also, x.secret⟩)) := by
  refine @Eq.mpr _ (let q1 := y.t;
 let q2 := q1.N;
 let q3 := q2 + 1;
 let q4 := q1.M;
 let q5 := q4 + 1;
 let q6 := q1.num;
 let q7 := q1.outs;
 let q8 := y.o;
 let q9 := q8.owner;
 let q10 := decide (y.i = y.i);
 let q11 := decide (y.since = y.since);
 let q12 := decide (y.height = y.height);
 let q13 := decide (y.tagged = y.tagged);
 let q14 := InS.mk x.name x.index x.way ta x.also x.secret;
 let q15 := x.name = q14.name;
 let q16 := decide (x.index = q14.index);
 let q17 := decide (x.way = q14.way);
 let q18 := q14.tag;
 let q19 := [(4, 4), (3, 3), (5, 5), (1, 1), (0, 0)];
 let q20 := outRows (snoc q4 q7 out77);
 let q21 := q8.kind;
 let q22 := q8.amount;
 let q23 := q8.other;
 let q24 := q8.point;
 let q25 := q8.hash;
 let q26 := q8.delay;
 let q27 := q8.expiry;
 let q28 := x.also = q14.also ∧ x.secret = q14.secret ∧ iteB (decide (q3 = q3)) (RowsEq 0 q19 q3 (inRows g) (inRows g) ∧ iteB (decide (q5 = q5)) (RowsEq 0 q19 q5 q20 q20 ∧ iteB (decide (q21 = q21)) (iteB (decide (q22 = q22)) (q9 = q9 ∧ q23 = q23 ∧ q24 = q24 ∧ q25 = q25 ∧ iteB (decide (q26 = q26)) (iteB (decide (q27 = q27)) (iteB (decide (q6 = q6)) (iteB (decide (q2 = q2)) (iteB (decide (q3 ≤ q3)) (iteB (decide (q4 = q4)) (iteB (decide (q5 ≤ q5)) True False) False) False) False) False) False) False) False) False) False) False;
 iteB b
 (iteB (decide (0 + q2 ≤ q3))
 ((∀ (i : Nat), i < q2 → true = true) ∧
 iteB (decide (0 + q4 ≤ q5))
 ((∀ (i : Nat), i < q4 → true = true) ∧
 ∃ (t : TxS),
 (t.num = q6 ∧
 ((q2 = q2 ∧ t.N = q2) ∧ ∀ (i : Nat), i < q2 → [AV.arr IntKind.u8 32 (g i).name, AV.int IntKind.i64 (g i).index, AV.int IntKind.i64 (g i).way, AV.arr IntKind.u8 32 (g i).tag, AV.arr IntKind.u8 32 (g i).also, AV.arr IntKind.u8 32 (g i).secret] = InS.c (t.ins i)) ∧
 (q4 = q4 ∧ t.M = q4) ∧
 ∀ (i : Nat),
 let q57 := snoc q4 q7 out77 i;
 i < q4 → [AV.int IntKind.i64 q57.kind, AV.int IntKind.i64 q57.amount, AV.arr IntKind.u8 32 q57.owner, AV.arr IntKind.u8 32 q57.other, AV.arr IntKind.u8 32 q57.point, AV.arr IntKind.u8 32 q57.hash, AV.int IntKind.i64 q57.delay, AV.int IntKind.i64 q57.expiry] = OutS.c (t.outs i)) ∧
 (TxS.Fine t ∧ List.length q9 = 32) ∧ iteB q10 (iteB q11 (iteB q12 (iteB q13 (q15 ∧ iteB q16 (iteB q17 (Td q9 t = q18 ∧ q28) False) False) False) False) False) False)
 False)
 False)
 (iteB q10 (iteB q11 (iteB q12 (iteB q13 (q15 ∧ iteB q16 (iteB q17 (x.tag = q18 ∧ q28) False) False) False) False) False) False)) (by kernel_rfl) ?_
  conv => zeta
  try simp only [need_eq]
  try simp only [nope_eq]
  try simp only [iteD_eq]
  try simp only [iteT_eq]
  try simp only [iteF_eq]
  try simp only [iteE_eq]
  try simp only [Int.toNat_natCast, Nat.zero_add, true_and, and_true, Nat.le_refl]
  have hr1 : ∀ τ, RowsEq 0 τ (y.t.N + 1) (inRows g) (inRows g) := fun _ => inRowsEq fun _ _ => rfl
  have hr2 : ∀ τ, RowsEq 0 τ (y.t.M + 1) (outRows (snoc y.t.M y.t.outs out77)) (outRows (snoc y.t.M y.t.outs out77)) := fun _ => outRowsEq fun _ _ => rfl
  have ho : ∀ i, i < y.t.M → snoc y.t.M y.t.outs out77 i = y.t.outs i := fun i h => by unfold snoc; rw [if_neg (by omega)]
  exact ⟨fun hb => ⟨by omega, fun _ _ => trivial, by omega, fun _ _ => trivial, y.t, ⟨rfl, ⟨rfl, fun i hi => by rw [hg i hi]; rfl⟩, rfl, fun i hi => by rw [ho i hi]; rfl⟩, ⟨hf hb, lo⟩, (h1 hb).symm, hr1 _, hr2 _⟩, fun hb => ⟨(h2 hb).symm, hr1 _, hr2 _⟩⟩
set_option maxRecDepth 100000 in
set_option maxHeartbeats 0 in
theorem sp_58 (Td : List Int → TxS → List Int) (y : SpS) (b : Bool) (g : Nat → InS) (x : InS) (ta : List Int) (hg : ∀ i, i < y.t.N → g i = y.t.ins i) (lo : y.o.other.length = 32) (hf : b = true → y.t.Fine) (h1 : b = true → ta = Td y.o.other y.t) (h2 : b = false → ta = x.tag) :
    codeE (E67t Td) 20 6 100058 0 (y.qb 58 b g x) (jnM 0 (y.q g ⟨x.name, x.index, x.way, ta, x.also, x.secret⟩)) := by
  refine @Eq.mpr _ (let q1 := y.t;
 let q2 := q1.N;
 let q3 := q2 + 1;
 let q4 := q1.M;
 let q5 := q4 + 1;
 let q6 := q1.num;
 let q7 := q1.outs;
 let q8 := y.o;
 let q9 := q8.other;
 let q10 := decide (y.i = y.i);
 let q11 := decide (y.since = y.since);
 let q12 := decide (y.height = y.height);
 let q13 := decide (y.tagged = y.tagged);
 let q14 := InS.mk x.name x.index x.way ta x.also x.secret;
 let q15 := x.name = q14.name;
 let q16 := decide (x.index = q14.index);
 let q17 := decide (x.way = q14.way);
 let q18 := q14.tag;
 let q19 := [(4, 4), (3, 3), (5, 5), (1, 1), (0, 0)];
 let q20 := outRows (snoc q4 q7 out77);
 let q21 := q8.kind;
 let q22 := q8.amount;
 let q23 := q8.owner;
 let q24 := q8.point;
 let q25 := q8.hash;
 let q26 := q8.delay;
 let q27 := q8.expiry;
 let q28 := x.also = q14.also ∧ x.secret = q14.secret ∧ iteB (decide (q3 = q3)) (RowsEq 0 q19 q3 (inRows g) (inRows g) ∧ iteB (decide (q5 = q5)) (RowsEq 0 q19 q5 q20 q20 ∧ iteB (decide (q21 = q21)) (iteB (decide (q22 = q22)) (q23 = q23 ∧ q9 = q9 ∧ q24 = q24 ∧ q25 = q25 ∧ iteB (decide (q26 = q26)) (iteB (decide (q27 = q27)) (iteB (decide (q6 = q6)) (iteB (decide (q2 = q2)) (iteB (decide (q3 ≤ q3)) (iteB (decide (q4 = q4)) (iteB (decide (q5 ≤ q5)) True False) False) False) False) False) False) False) False) False) False) False;
 iteB b
 (iteB (decide (0 + q2 ≤ q3))
 ((∀ (i : Nat), i < q2 → true = true) ∧
 iteB (decide (0 + q4 ≤ q5))
 ((∀ (i : Nat), i < q4 → true = true) ∧
 ∃ (t : TxS),
 (t.num = q6 ∧
 ((q2 = q2 ∧ t.N = q2) ∧ ∀ (i : Nat), i < q2 → [AV.arr IntKind.u8 32 (g i).name, AV.int IntKind.i64 (g i).index, AV.int IntKind.i64 (g i).way, AV.arr IntKind.u8 32 (g i).tag, AV.arr IntKind.u8 32 (g i).also, AV.arr IntKind.u8 32 (g i).secret] = InS.c (t.ins i)) ∧
 (q4 = q4 ∧ t.M = q4) ∧
 ∀ (i : Nat),
 let q57 := snoc q4 q7 out77 i;
 i < q4 → [AV.int IntKind.i64 q57.kind, AV.int IntKind.i64 q57.amount, AV.arr IntKind.u8 32 q57.owner, AV.arr IntKind.u8 32 q57.other, AV.arr IntKind.u8 32 q57.point, AV.arr IntKind.u8 32 q57.hash, AV.int IntKind.i64 q57.delay, AV.int IntKind.i64 q57.expiry] = OutS.c (t.outs i)) ∧
 (TxS.Fine t ∧ List.length q9 = 32) ∧ iteB q10 (iteB q11 (iteB q12 (iteB q13 (q15 ∧ iteB q16 (iteB q17 (Td q9 t = q18 ∧ q28) False) False) False) False) False) False)
 False)
 False)
 (iteB q10 (iteB q11 (iteB q12 (iteB q13 (q15 ∧ iteB q16 (iteB q17 (x.tag = q18 ∧ q28) False) False) False) False) False) False)) (by kernel_rfl) ?_
  conv => zeta
  try simp only [need_eq]
  try simp only [nope_eq]
  try simp only [iteD_eq]
  try simp only [iteT_eq]
  try simp only [iteF_eq]
  try simp only [iteE_eq]
  try simp only [Int.toNat_natCast, Nat.zero_add, true_and, and_true, Nat.le_refl]
  have hr1 : ∀ τ, RowsEq 0 τ (y.t.N + 1) (inRows g) (inRows g) := fun _ => inRowsEq fun _ _ => rfl
  have hr2 : ∀ τ, RowsEq 0 τ (y.t.M + 1) (outRows (snoc y.t.M y.t.outs out77)) (outRows (snoc y.t.M y.t.outs out77)) := fun _ => outRowsEq fun _ _ => rfl
  have ho : ∀ i, i < y.t.M → snoc y.t.M y.t.outs out77 i = y.t.outs i := fun i h => by unfold snoc; rw [if_neg (by omega)]
  exact ⟨fun hb => ⟨by omega, fun _ _ => trivial, by omega, fun _ _ => trivial, y.t, ⟨rfl, ⟨rfl, fun i hi => by rw [hg i hi]; rfl⟩, rfl, fun i hi => by rw [ho i hi]; rfl⟩, ⟨hf hb, lo⟩, (h1 hb).symm, hr1 _, hr2 _⟩, fun hb => ⟨(h2 hb).symm, hr1 _, hr2 _⟩⟩
set_option maxRecDepth 100000 in
set_option maxHeartbeats 0 in
theorem sp_71 (Td : List Int → TxS → List Int) (y : SpS) (b : Bool) (g : Nat → InS) (x : InS) (al : List Int) (hg : ∀ i, i < y.t.N → g i = y.t.ins i) (lo : y.o.other.length = 32) (hf : b = true → y.t.Fine) (h1 : b = true → al = Td y.o.other y.t) (h2 : b = false → al = x.also) :
    codeE (E67t Td) 20 6 100071 0 (y.qb 71 b g x) (jnM 0 (y.q g ⟨x.name, x.index, x.way, x.tag, al, x.secret⟩)) := by
  refine @Eq.mpr _ (let q1 := y.t;
 let q2 := q1.N;
 let q3 := q2 + 1;
 let q4 := q1.M;
 let q5 := q4 + 1;
 let q6 := q1.num;
 let q7 := q1.outs;
 let q8 := y.o;
 let q9 := q8.other;
 let q10 := decide (y.i = y.i);
 let q11 := decide (y.since = y.since);
 let q12 := decide (y.height = y.height);
 let q13 := decide (y.tagged = y.tagged);
 let q14 := InS.mk x.name x.index x.way x.tag al x.secret;
 let q15 := x.name = q14.name;
 let q16 := decide (x.index = q14.index);
 let q17 := decide (x.way = q14.way);
 let q18 := x.tag = q14.tag;
 let q19 := q14.also;
 let q20 := [(4, 4), (3, 3), (5, 5), (1, 1), (0, 0)];
 let q21 := outRows (snoc q4 q7 out77);
 let q22 := q8.kind;
 let q23 := q8.amount;
 let q24 := q8.owner;
 let q25 := q8.point;
 let q26 := q8.hash;
 let q27 := q8.delay;
 let q28 := q8.expiry;
 let q29 := x.secret = q14.secret ∧ iteB (decide (q3 = q3)) (RowsEq 0 q20 q3 (inRows g) (inRows g) ∧ iteB (decide (q5 = q5)) (RowsEq 0 q20 q5 q21 q21 ∧ iteB (decide (q22 = q22)) (iteB (decide (q23 = q23)) (q24 = q24 ∧ q9 = q9 ∧ q25 = q25 ∧ q26 = q26 ∧ iteB (decide (q27 = q27)) (iteB (decide (q28 = q28)) (iteB (decide (q6 = q6)) (iteB (decide (q2 = q2)) (iteB (decide (q3 ≤ q3)) (iteB (decide (q4 = q4)) (iteB (decide (q5 ≤ q5)) True False) False) False) False) False) False) False) False) False) False) False;
 iteB b
 (iteB (decide (0 + q2 ≤ q3))
 ((∀ (i : Nat), i < q2 → true = true) ∧
 iteB (decide (0 + q4 ≤ q5))
 ((∀ (i : Nat), i < q4 → true = true) ∧
 ∃ (t : TxS),
 (t.num = q6 ∧
 ((q2 = q2 ∧ t.N = q2) ∧ ∀ (i : Nat), i < q2 → [AV.arr IntKind.u8 32 (g i).name, AV.int IntKind.i64 (g i).index, AV.int IntKind.i64 (g i).way, AV.arr IntKind.u8 32 (g i).tag, AV.arr IntKind.u8 32 (g i).also, AV.arr IntKind.u8 32 (g i).secret] = InS.c (t.ins i)) ∧
 (q4 = q4 ∧ t.M = q4) ∧
 ∀ (i : Nat),
 let q59 := snoc q4 q7 out77 i;
 i < q4 → [AV.int IntKind.i64 q59.kind, AV.int IntKind.i64 q59.amount, AV.arr IntKind.u8 32 q59.owner, AV.arr IntKind.u8 32 q59.other, AV.arr IntKind.u8 32 q59.point, AV.arr IntKind.u8 32 q59.hash, AV.int IntKind.i64 q59.delay, AV.int IntKind.i64 q59.expiry] = OutS.c (t.outs i)) ∧
 (TxS.Fine t ∧ List.length q9 = 32) ∧ iteB q10 (iteB q11 (iteB q12 (iteB q13 (q15 ∧ iteB q16 (iteB q17 (q18 ∧ Td q9 t = q19 ∧ q29) False) False) False) False) False) False)
 False)
 False)
 (iteB q10 (iteB q11 (iteB q12 (iteB q13 (q15 ∧ iteB q16 (iteB q17 (q18 ∧ x.also = q19 ∧ q29) False) False) False) False) False) False)) (by kernel_rfl) ?_
  conv => zeta
  try simp only [need_eq]
  try simp only [nope_eq]
  try simp only [iteD_eq]
  try simp only [iteT_eq]
  try simp only [iteF_eq]
  try simp only [iteE_eq]
  try simp only [Int.toNat_natCast, Nat.zero_add, true_and, and_true, Nat.le_refl]
  have hr1 : ∀ τ, RowsEq 0 τ (y.t.N + 1) (inRows g) (inRows g) := fun _ => inRowsEq fun _ _ => rfl
  have hr2 : ∀ τ, RowsEq 0 τ (y.t.M + 1) (outRows (snoc y.t.M y.t.outs out77)) (outRows (snoc y.t.M y.t.outs out77)) := fun _ => outRowsEq fun _ _ => rfl
  have ho : ∀ i, i < y.t.M → snoc y.t.M y.t.outs out77 i = y.t.outs i := fun i h => by unfold snoc; rw [if_neg (by omega)]
  exact ⟨fun hb => ⟨by omega, fun _ _ => trivial, by omega, fun _ _ => trivial, y.t, ⟨rfl, ⟨rfl, fun i hi => by rw [hg i hi]; rfl⟩, rfl, fun i hi => by rw [ho i hi]; rfl⟩, ⟨hf hb, lo⟩, (h1 hb).symm, hr1 _, hr2 _⟩, fun hb => ⟨(h2 hb).symm, hr1 _, hr2 _⟩⟩
noncomputable def E67b (C : Prop) (Td : List Int → TxS → List Int) (y : SpS) (b1 b2 b3 : Bool) (g : Nat → InS) (x0 x1 x2 x3 : InS) : Env2 :=
  (((E67t Td).withL 6 100045 (joinM 0 (y.qb 45 b1 g x0) (y.q g x1) C)).withL 6 100058 (joinM 0 (y.qb 58 b2 g x1) (y.q g x2) C)).withL 6 100071 (joinM 0 (y.qb 71 b3 g x2) (y.q g x3) C)
set_option maxRecDepth 100000 in
set_option maxHeartbeats 0 in
theorem sp_32 (C : Prop) (Td : List Int → TxS → List Int) (y : SpS) (b b1 b2 b3 : Bool) (g g' : Nat → InS) (x0 x1 x2 x3 : InS) (n : Nat) (hC : b = true → C) (hi : b = true → 0 ≤ y.i ∧ y.i < y.t.N) (hn : y.i.toNat = n) (h0 : b = true → g n = x0) (hg' : b = true → ∀ j, j < y.t.N + 1 → g' j = if j = n then x3 else g j) (hg2 : b = false → g' = g) (w1 : x1.way = x0.way) (w2 : x2.way = x0.way) (hb1 : b1 = (decide (bAnd .i64 y.tagged 1 > 0) && x0.way != 4)) (hb2 : b2 = (decide (bAnd .i64 y.tagged 2 > 0) && x0.way != 4)) (hb3 : b3 = (decide (bAnd .i64 y.tagged 4 > 0) && x0.way == 1)) :
    codeE (E67b C Td y b1 b2 b3 g x0 x1 x2 x3) 20 6 100032 0 (y.sb 32 b g) (jnM 0 (y.s g')) := by
  refine @Eq.mpr _ (let q1 := y.i;
 let q2 := y.t;
 let q3 := q2.N;
 let q4 := decide (0 ≤ q1 ∧ q1 < ↑q3);
 let q5 := 0 + Int.toNat q1;
 let q6 := q3 + 1;
 let q7 := y.tagged;
 let q8 := g q5;
 let q9 := q8.way;
 let q10 := decide (q1 = q1);
 let q11 := decide (y.since = y.since);
 let q12 := decide (y.height = y.height);
 let q13 := decide (q7 = q7);
 let q14 := decide (q6 = q6);
 let q15 := [(1, 1), (0, 0)];
 let q16 := (4, 4) :: (3, 3) :: (5, 5) :: q15;
 let q17 := inRows g;
 let q18 := RowsEq 0 q16 q6 q17 q17;
 let q19 := q2.M;
 let q20 := q19 + 1;
 let q21 := decide (q20 = q20);
 let q22 := outRows (snoc q19 q2.outs out77);
 let q23 := RowsEq 0 q16 q20 q22 q22;
 let q24 := y.o;
 let q25 := q24.kind;
 let q26 := decide (q25 = q25);
 let q27 := q24.amount;
 let q28 := decide (q27 = q27);
 let q29 := q24.owner;
 let q30 := q29 = q29;
 let q31 := q24.other;
 let q32 := q31 = q31;
 let q33 := q24.point;
 let q34 := q33 = q33;
 let q35 := q24.hash;
 let q36 := q35 = q35;
 let q37 := q24.delay;
 let q38 := decide (q37 = q37);
 let q39 := q24.expiry;
 let q40 := decide (q39 = q39);
 let q41 := q2.num;
 let q42 := decide (q41 = q41);
 let q43 := decide (q3 = q3);
 let q44 := decide (q6 ≤ q6);
 let q45 := decide (q19 = q19);
 let q46 := decide (q20 ≤ q20);
 let q47 := x1.way;
 let q48 := x2.way;
 let q49 := (4, 4) :: (3, 3) :: q15;
 let q50 := iteB q21 (RowsEq 0 q49 q20 q22 q22 ∧ iteB q26 (iteB q28 (q30 ∧ q32 ∧ q34 ∧ q36 ∧ iteB q38 (iteB q40 (iteB q42 (iteB q43 (iteB q44 (iteB q45 (iteB q46 True False) False) False) False) False) False) False) False) False) False;
 let q51 := iteB q10 (iteB q11 (iteB q12 (iteB q13 (x2.name = x2.name ∧ iteB (decide (x2.index = x2.index)) (iteB (decide (q48 = q48)) (x2.tag = x2.tag ∧ x2.also = x2.also ∧ x2.secret = x2.secret ∧ iteB q14 (q18 ∧ iteB q21 (q23 ∧ iteB q26 (iteB q28 (q30 ∧ q32 ∧ q34 ∧ q36 ∧ iteB q38 (iteB q40 (iteB q42 (iteB q43 (iteB q44 (iteB q45 (iteB q46 (C ∧ iteB q4 (iteB (decide (q5 < q6)) (iteB q10 (iteB q11 (iteB q12 (iteB q13 (iteB q14 (RowsEq 0 q49 q6 (inRows g') (updF q17 q5 [AV.arr IntKind.u8 32 x3.name, AV.int IntKind.i64 x3.index, AV.int IntKind.i64 x3.way, AV.arr IntKind.u8 32 x3.tag, AV.arr IntKind.u8 32 x3.also, AV.arr IntKind.u8 32 x3.secret]) ∧ q50) False) False) False) False) False) False) False) False) False) False) False) False) False) False) False) False) False) False) False) False) False) False) False) False;
 let q52 := iteB q10 (iteB q11 (iteB q12 (iteB q13 (x1.name = x1.name ∧ iteB (decide (x1.index = x1.index)) (iteB (decide (q47 = q47)) (x1.tag = x1.tag ∧ x1.also = x1.also ∧ x1.secret = x1.secret ∧ iteB q14 (q18 ∧ iteB q21 (q23 ∧ iteB q26 (iteB q28 (q30 ∧ q32 ∧ q34 ∧ q36 ∧ iteB q38 (iteB q40 (iteB q42 (iteB q43 (iteB q44 (iteB q45 (iteB q46 (C ∧ iteB (decide (bAnd IntKind.i64 q7 4 > 0)) (iteB (decide ((q48 == 1) = b3)) q51 False) (iteB (decide (false = b3)) q51 False)) False) False) False) False) False) False) False) False) False) False) False) False) False) False) False) False) False;
 let q53 := iteB q10 (iteB q11 (iteB q12 (iteB q13 (q8.name = x0.name ∧ iteB (decide (q8.index = x0.index)) (iteB (decide (q9 = x0.way)) (q8.tag = x0.tag ∧ q8.also = x0.also ∧ q8.secret = x0.secret ∧ iteB q14 (q18 ∧ iteB q21 (q23 ∧ iteB q26 (iteB q28 (q30 ∧ q32 ∧ q34 ∧ q36 ∧ iteB q38 (iteB q40 (iteB q42 (iteB q43 (iteB q44 (iteB q45 (iteB q46 (C ∧ iteB (decide (bAnd IntKind.i64 q7 2 > 0)) (iteB (decide ((q47 != 4) = b2)) q52 False) (iteB (decide (false = b2)) q52 False)) False) False) False) False) False) False) False) False) False) False) False) False) False) False) False) False) False;
 iteB b (iteB q4 (iteB (decide (q5 < q6)) (iteB (decide (bAnd IntKind.i64 q7 1 > 0)) (iteB (decide ((q9 != 4) = b1)) q53 False) (iteB (decide (false = b1)) q53 False)) False) False) (iteB q10 (iteB q11 (iteB q12 (iteB q13 (iteB q14 (RowsEq 0 q49 q6 (inRows g') q17 ∧ q50) False) False) False) False) False)) (by kernel_rfl) ?_
  conv => zeta
  try simp only [need_eq]
  try simp only [nope_eq]
  try simp only [iteD_eq]
  try simp only [iteT_eq]
  try simp only [iteF_eq]
  try simp only [iteE_eq]
  try simp only [Int.toNat_natCast, Nat.zero_add, true_and, and_true, Nat.le_refl]
  have hr1 : ∀ τ, RowsEq 0 τ (y.t.N + 1) (inRows g) (inRows g) := fun _ => inRowsEq fun _ _ => rfl
  have hr2 : ∀ τ, RowsEq 0 τ (y.t.M + 1) (outRows (snoc y.t.M y.t.outs out77)) (outRows (snoc y.t.M y.t.outs out77)) := fun _ => outRowsEq fun _ _ => rfl
  have hr3 : b = true → ∀ τ, RowsEq 0 τ (y.t.N + 1) (inRows g') (updF (inRows g) y.i.toNat x3.c) := fun hb _ => inRowsEq fun j hj => by
    rw [updF_eq, hn, hg' hb j hj]
    by_cases hjn : j = n
    · rw [if_pos hjn, hjn, Nat.beq_refl]
    · have : Nat.beq j n = false := by
        cases h : Nat.beq j n with
        | false => rfl
        | true => exact absurd (Nat.eq_of_beq_eq_true h) hjn
      rw [this, if_neg hjn]; rfl
  subst hn
  refine ⟨fun hb => ?_, fun hb => ?_⟩
  · have hr3 : ∀ τ, RowsEq 0 τ (y.t.N + 1) (inRows g') (updF (inRows g) y.i.toNat [.arr .u8 32 x3.name, .int .i64 x3.index, .int .i64 x3.way, .arr .u8 32 x3.tag, .arr .u8 32 x3.also, .arr .u8 32 x3.secret]) := hr3 hb
    obtain ⟨i1, i2⟩ := hi hb
    have hC := hC hb
    have h0 := h0 hb
    clear hg' hg2 hi
    rw [w1, w2, h0]
    refine ⟨⟨i1, i2⟩, by omega, ?_⟩
    repeat' (first | (refine And.intro ?_ ?_) | intro _ | fail)
    all_goals first | exact hr1 _ | exact hr2 _ | exact hr3 _ | rfl | exact hC | omega | (simp_all; done)
  · rw [hg2 hb]
    exact ⟨hr1 _, hr2 _⟩
noncomputable def E67c (A : List Int → Int × Int) (Td : List Int → TxS → List Int) (F1 F2 : TxS → Int → OutS → Int → Int → Int) (y : SpS) (b : Bool) (g g' : Nat → InS) : Env2 := (E67 A Td F1 F2).withL 6 100032 (joinM 0 (y.sb 32 b g) (y.s g') y.t.Ok)
def SpS.t3 (y : SpS) (g' : Nat → InS) : TxS := ⟨y.t.num, y.t.N, g', y.t.M, y.t.outs⟩
set_option maxRecDepth 100000 in
set_option maxHeartbeats 0 in
theorem sq_1 (A : List Int → Int × Int) (Td : List Int → TxS → List Int) (F1 F2 : TxS → Int → OutS → Int → Int → Int) (y : SpS) (b : Bool) (g g' : Nat → InS) (hok : y.t.N < 900000000000 → y.t.M < 900000000000 → y.t.Ok) (hb : TxB y.t) (hg : g = snoc y.t.N y.t.ins in77) (hbb : b = (ckTx A y.t && decide (y.i ≥ 0) && decide (y.i < y.t.N))) (k4 : y.t.Ok → (y.t3 g').Ok) (k5 : TxB (y.t3 g')) (k6 : y.o.Ok) (k7 : Bytes y.o.owner ∧ Bytes y.o.other) (k8 : -9223372036854775808 ≤ y.since ∧ y.since < 9223372036854775808) (k9 : -9223372036854775808 ≤ y.height ∧ y.height < 9223372036854775808) (hF : y.t.Ok → F1 (y.t3 g') y.i y.o y.since y.height = F2 (y.t3 g') y.i y.o y.since y.height) :
    evF (E67c A Td F1 F2 y b g g') 20 6 [.agg y.t.c, .int .i64 y.i, .agg y.o.c, .int .i64 y.since, .int .i64 y.height, .int .i64 y.tagged] ⟨0, []⟩ (outV (fun v => v = .bool true)) := by
  refine @Eq.mpr _ (iteB (decide ((↑y.t.N : Int) ≤ 30))
 (iteB (!decide ((↑y.t.M : Int) ≤ 30)) (AV.bool true = AV.bool true)
 (∃ (t : TxS),
 (t.num = y.t.num ∧ ((y.t.N = y.t.N ∧ t.N = y.t.N) ∧ ∀ (i : Nat), i < y.t.N → inRows y.t.ins i = InS.c (t.ins i)) ∧ (y.t.M = y.t.M ∧ t.M = y.t.M) ∧ ∀ (i : Nat), i < y.t.M → outRows y.t.outs i = OutS.c (t.outs i)) ∧
 (t.N ≤ 30 ∧ t.M ≤ 30) ∧
 iteB (decide (0 + t.N ≤ t.N + 1))
 ((∀ (i : Nat), i < t.N → true = true) ∧
 iteB (decide (0 + t.M ≤ t.M + 1))
 ((∀ (i : Nat), i < t.M → true = true) ∧
 ∃ (t_1 : TxS),
 (t_1.num = t.num ∧ ((t.N = t.N ∧ t_1.N = t.N) ∧ ∀ (i : Nat), i < t.N → [AV.arr IntKind.u8 32 (snoc t.N t.ins in77 i).name, AV.int IntKind.i64 (snoc t.N t.ins in77 i).index, AV.int IntKind.i64 (snoc t.N t.ins in77 i).way, AV.arr IntKind.u8 32 (snoc t.N t.ins in77 i).tag, AV.arr IntKind.u8 32 (snoc t.N t.ins in77 i).also, AV.arr IntKind.u8 32 (snoc t.N t.ins in77 i).secret] = InS.c (t_1.ins i)) ∧ (t.M = t.M ∧ t_1.M = t.M) ∧ ∀ (i : Nat), i < t.M → [AV.int IntKind.i64 (snoc t.M t.outs out77 i).kind, AV.int IntKind.i64 (snoc t.M t.outs out77 i).amount, AV.arr IntKind.u8 32 (snoc t.M t.outs out77 i).owner, AV.arr IntKind.u8 32 (snoc t.M t.outs out77 i).other, AV.arr IntKind.u8 32 (snoc t.M t.outs out77 i).point, AV.arr IntKind.u8 32 (snoc t.M t.outs out77 i).hash, AV.int IntKind.i64 (snoc t.M t.outs out77 i).delay, AV.int IntKind.i64 (snoc t.M t.outs out77 i).expiry] = OutS.c (t_1.outs i)) ∧
 TxS.Ok t_1 ∧
 TxB t_1 ∧
 iteB (ckTx A t_1)
 (iteB (decide (y.i ≥ 0))
 (iteB (decide (decide (y.i < (↑t.N : Int)) = b))
 (iteB (decide (y.i = y.i))
 (iteB (decide (y.since = y.since))
 (iteB (decide (y.height = y.height))
 (iteB (decide (y.tagged = y.tagged))
 (iteB (decide (t.N + 1 = y.t.N + 1))
 (RowsEq 0 [(4, 4), (3, 3), (1, 1), (0, 0)] (y.t.N + 1) (inRows g) (inRows (snoc t.N t.ins in77)) ∧
 iteB (decide (t.M + 1 = y.t.M + 1))
 (RowsEq 0 [(4, 4), (3, 3), (1, 1), (0, 0)] (y.t.M + 1) (outRows (snoc y.t.M y.t.outs out77)) (outRows (snoc t.M t.outs out77)) ∧
 iteB (decide (y.o.kind = y.o.kind))
 (iteB (decide (y.o.amount = y.o.amount))
 (y.o.owner = y.o.owner ∧
 y.o.other = y.o.other ∧
 y.o.point = y.o.point ∧
 y.o.hash = y.o.hash ∧
 iteB (decide (y.o.delay = y.o.delay))
 (iteB (decide (y.o.expiry = y.o.expiry))
 (iteB (decide (t.num = y.t.num))
 (iteB (decide (t.N = y.t.N))
 (iteB (decide (y.t.N + 1 ≤ t.N + 1))
 (iteB (decide (t.M = y.t.M))
 (iteB (decide (y.t.M + 1 ≤ t.M + 1))
 (TxS.Ok y.t ∧
 iteB (decide (0 + y.t.N ≤ y.t.N + 1))
 ((∀ (i : Nat), i < y.t.N → true = true) ∧
 iteB (decide (0 + y.t.M ≤ y.t.M + 1))
 ((∀ (i : Nat), i < y.t.M → true = true) ∧
 ∃ (t : TxS),
 ∃ (o : OutS),
 (t.num = y.t.num ∧ ((y.t.N = y.t.N ∧ t.N = y.t.N) ∧ ∀ (i : Nat), i < y.t.N → [AV.arr IntKind.u8 32 (g' i).name, AV.int IntKind.i64 (g' i).index, AV.int IntKind.i64 (g' i).way, AV.arr IntKind.u8 32 (g' i).tag, AV.arr IntKind.u8 32 (g' i).also, AV.arr IntKind.u8 32 (g' i).secret] = InS.c (t.ins i)) ∧ (y.t.M = y.t.M ∧ t.M = y.t.M) ∧ ∀ (i : Nat), i < y.t.M → [AV.int IntKind.i64 (snoc y.t.M y.t.outs out77 i).kind, AV.int IntKind.i64 (snoc y.t.M y.t.outs out77 i).amount, AV.arr IntKind.u8 32 (snoc y.t.M y.t.outs out77 i).owner, AV.arr IntKind.u8 32 (snoc y.t.M y.t.outs out77 i).other, AV.arr IntKind.u8 32 (snoc y.t.M y.t.outs out77 i).point, AV.arr IntKind.u8 32 (snoc y.t.M y.t.outs out77 i).hash, AV.int IntKind.i64 (snoc y.t.M y.t.outs out77 i).delay, AV.int IntKind.i64 (snoc y.t.M y.t.outs out77 i).expiry] = OutS.c (t.outs i)) ∧
 [AV.int IntKind.i64 y.o.kind, AV.int IntKind.i64 y.o.amount, AV.arr IntKind.u8 32 y.o.owner, AV.arr IntKind.u8 32 y.o.other, AV.arr IntKind.u8 32 y.o.point, AV.arr IntKind.u8 32 y.o.hash, AV.int IntKind.i64 y.o.delay, AV.int IntKind.i64 y.o.expiry] = OutS.c o ∧
 (TxS.Ok t ∧ OutS.Ok o ∧ (-9223372036854775808 ≤ y.since ∧ y.since < 9223372036854775808) ∧ -9223372036854775808 ≤ y.height ∧ y.height < 9223372036854775808) ∧
 iteB (decide (y.o.kind = y.o.kind))
 (iteB (decide (y.o.amount = y.o.amount))
 (y.o.owner = y.o.owner ∧
 y.o.other = y.o.other ∧
 y.o.point = y.o.point ∧
 y.o.hash = y.o.hash ∧
 iteB (decide (y.o.delay = y.o.delay))
 (iteB (decide (y.o.expiry = y.o.expiry))
 (iteB (decide (y.t.num = y.t.num))
 (iteB (decide (y.t.N = y.t.N))
 (iteB (decide (y.t.N + 1 = y.t.N + 1))
 (iteB (decide (y.t.M = y.t.M))
 (iteB (decide (y.t.M + 1 = y.t.M + 1))
 (iteB (decide (0 + y.t.N ≤ y.t.N + 1))
 ((∀ (i : Nat), i < y.t.N → true = true) ∧
 iteB (decide (0 + y.t.M ≤ y.t.M + 1))
 ((∀ (i : Nat), i < y.t.M → true = true) ∧
 ∃ (t_2 : TxS),
 ∃ (o_1 : OutS),
 (t_2.num = y.t.num ∧ ((y.t.N = y.t.N ∧ t_2.N = y.t.N) ∧ ∀ (i : Nat), i < y.t.N → [AV.arr IntKind.u8 32 (g' i).name, AV.int IntKind.i64 (g' i).index, AV.int IntKind.i64 (g' i).way, AV.arr IntKind.u8 32 (g' i).tag, AV.arr IntKind.u8 32 (g' i).also, AV.arr IntKind.u8 32 (g' i).secret] = InS.c (t_2.ins i)) ∧ (y.t.M = y.t.M ∧ t_2.M = y.t.M) ∧ ∀ (i : Nat), i < y.t.M → [AV.int IntKind.i64 (snoc y.t.M y.t.outs out77 i).kind, AV.int IntKind.i64 (snoc y.t.M y.t.outs out77 i).amount, AV.arr IntKind.u8 32 (snoc y.t.M y.t.outs out77 i).owner, AV.arr IntKind.u8 32 (snoc y.t.M y.t.outs out77 i).other, AV.arr IntKind.u8 32 (snoc y.t.M y.t.outs out77 i).point, AV.arr IntKind.u8 32 (snoc y.t.M y.t.outs out77 i).hash, AV.int IntKind.i64 (snoc y.t.M y.t.outs out77 i).delay, AV.int IntKind.i64 (snoc y.t.M y.t.outs out77 i).expiry] = OutS.c (t_2.outs i)) ∧
 [AV.int IntKind.i64 y.o.kind, AV.int IntKind.i64 y.o.amount, AV.arr IntKind.u8 32 y.o.owner, AV.arr IntKind.u8 32 y.o.other, AV.arr IntKind.u8 32 y.o.point, AV.arr IntKind.u8 32 y.o.hash, AV.int IntKind.i64 y.o.delay, AV.int IntKind.i64 y.o.expiry] = OutS.c o_1 ∧ (TxS.Ok t_2 ∧ TxB t_2 ∧ OutS.Ok o_1 ∧ (Bytes o_1.owner ∧ Bytes o_1.other) ∧ (-9223372036854775808 ≤ y.since ∧ y.since < 9223372036854775808) ∧ -9223372036854775808 ≤ y.height ∧ y.height < 9223372036854775808) ∧ iteB (F1 t y.i o y.since y.height == F2 t_2 y.i o_1 y.since y.height) (AV.bool true = AV.bool true) (AV.bool false = AV.bool true))
 False)
 False)
 False)
 False)
 False)
 False)
 False)
 False)
 False)
 False)
 False)
 False)
 False)
 False)
 False)
 False)
 False)
 False)
 False)
 False)
 False)
 False)
 False)
 False)
 False)
 False)
 False)
 False)
 False)
 (iteB (decide (false = b))
 (iteB (decide (y.i = y.i))
 (iteB (decide (y.since = y.since))
 (iteB (decide (y.height = y.height))
 (iteB (decide (y.tagged = y.tagged))
 (iteB (decide (t.N + 1 = y.t.N + 1))
 (RowsEq 0 [(4, 4), (3, 3), (1, 1), (0, 0)] (y.t.N + 1) (inRows g) (inRows (snoc t.N t.ins in77)) ∧
 iteB (decide (t.M + 1 = y.t.M + 1))
 (RowsEq 0 [(4, 4), (3, 3), (1, 1), (0, 0)] (y.t.M + 1) (outRows (snoc y.t.M y.t.outs out77)) (outRows (snoc t.M t.outs out77)) ∧
 iteB (decide (y.o.kind = y.o.kind))
 (iteB (decide (y.o.amount = y.o.amount))
 (y.o.owner = y.o.owner ∧
 y.o.other = y.o.other ∧
 y.o.point = y.o.point ∧
 y.o.hash = y.o.hash ∧
 iteB (decide (y.o.delay = y.o.delay))
 (iteB (decide (y.o.expiry = y.o.expiry))
 (iteB (decide (t.num = y.t.num))
 (iteB (decide (t.N = y.t.N))
 (iteB (decide (y.t.N + 1 ≤ t.N + 1))
 (iteB (decide (t.M = y.t.M))
 (iteB (decide (y.t.M + 1 ≤ t.M + 1))
 (TxS.Ok y.t ∧
 iteB (decide (0 + y.t.N ≤ y.t.N + 1))
 ((∀ (i : Nat), i < y.t.N → true = true) ∧
 iteB (decide (0 + y.t.M ≤ y.t.M + 1))
 ((∀ (i : Nat), i < y.t.M → true = true) ∧
 ∃ (t : TxS),
 ∃ (o : OutS),
 (t.num = y.t.num ∧ ((y.t.N = y.t.N ∧ t.N = y.t.N) ∧ ∀ (i : Nat), i < y.t.N → [AV.arr IntKind.u8 32 (g' i).name, AV.int IntKind.i64 (g' i).index, AV.int IntKind.i64 (g' i).way, AV.arr IntKind.u8 32 (g' i).tag, AV.arr IntKind.u8 32 (g' i).also, AV.arr IntKind.u8 32 (g' i).secret] = InS.c (t.ins i)) ∧ (y.t.M = y.t.M ∧ t.M = y.t.M) ∧ ∀ (i : Nat), i < y.t.M → [AV.int IntKind.i64 (snoc y.t.M y.t.outs out77 i).kind, AV.int IntKind.i64 (snoc y.t.M y.t.outs out77 i).amount, AV.arr IntKind.u8 32 (snoc y.t.M y.t.outs out77 i).owner, AV.arr IntKind.u8 32 (snoc y.t.M y.t.outs out77 i).other, AV.arr IntKind.u8 32 (snoc y.t.M y.t.outs out77 i).point, AV.arr IntKind.u8 32 (snoc y.t.M y.t.outs out77 i).hash, AV.int IntKind.i64 (snoc y.t.M y.t.outs out77 i).delay, AV.int IntKind.i64 (snoc y.t.M y.t.outs out77 i).expiry] = OutS.c (t.outs i)) ∧
 [AV.int IntKind.i64 y.o.kind, AV.int IntKind.i64 y.o.amount, AV.arr IntKind.u8 32 y.o.owner, AV.arr IntKind.u8 32 y.o.other, AV.arr IntKind.u8 32 y.o.point, AV.arr IntKind.u8 32 y.o.hash, AV.int IntKind.i64 y.o.delay, AV.int IntKind.i64 y.o.expiry] = OutS.c o ∧
 (TxS.Ok t ∧ OutS.Ok o ∧ (-9223372036854775808 ≤ y.since ∧ y.since < 9223372036854775808) ∧ -9223372036854775808 ≤ y.height ∧ y.height < 9223372036854775808) ∧
 iteB (decide (y.o.kind = y.o.kind))
 (iteB (decide (y.o.amount = y.o.amount))
 (y.o.owner = y.o.owner ∧
 y.o.other = y.o.other ∧
 y.o.point = y.o.point ∧
 y.o.hash = y.o.hash ∧
 iteB (decide (y.o.delay = y.o.delay))
 (iteB (decide (y.o.expiry = y.o.expiry))
 (iteB (decide (y.t.num = y.t.num))
 (iteB (decide (y.t.N = y.t.N))
 (iteB (decide (y.t.N + 1 = y.t.N + 1))
 (iteB (decide (y.t.M = y.t.M))
 (iteB (decide (y.t.M + 1 = y.t.M + 1))
 (iteB (decide (0 + y.t.N ≤ y.t.N + 1))
 ((∀ (i : Nat), i < y.t.N → true = true) ∧
 iteB (decide (0 + y.t.M ≤ y.t.M + 1))
 ((∀ (i : Nat), i < y.t.M → true = true) ∧
 ∃ (t_2 : TxS),
 ∃ (o_1 : OutS),
 (t_2.num = y.t.num ∧ ((y.t.N = y.t.N ∧ t_2.N = y.t.N) ∧ ∀ (i : Nat), i < y.t.N → [AV.arr IntKind.u8 32 (g' i).name, AV.int IntKind.i64 (g' i).index, AV.int IntKind.i64 (g' i).way, AV.arr IntKind.u8 32 (g' i).tag, AV.arr IntKind.u8 32 (g' i).also, AV.arr IntKind.u8 32 (g' i).secret] = InS.c (t_2.ins i)) ∧ (y.t.M = y.t.M ∧ t_2.M = y.t.M) ∧ ∀ (i : Nat), i < y.t.M → [AV.int IntKind.i64 (snoc y.t.M y.t.outs out77 i).kind, AV.int IntKind.i64 (snoc y.t.M y.t.outs out77 i).amount, AV.arr IntKind.u8 32 (snoc y.t.M y.t.outs out77 i).owner, AV.arr IntKind.u8 32 (snoc y.t.M y.t.outs out77 i).other, AV.arr IntKind.u8 32 (snoc y.t.M y.t.outs out77 i).point, AV.arr IntKind.u8 32 (snoc y.t.M y.t.outs out77 i).hash, AV.int IntKind.i64 (snoc y.t.M y.t.outs out77 i).delay, AV.int IntKind.i64 (snoc y.t.M y.t.outs out77 i).expiry] = OutS.c (t_2.outs i)) ∧
 [AV.int IntKind.i64 y.o.kind, AV.int IntKind.i64 y.o.amount, AV.arr IntKind.u8 32 y.o.owner, AV.arr IntKind.u8 32 y.o.other, AV.arr IntKind.u8 32 y.o.point, AV.arr IntKind.u8 32 y.o.hash, AV.int IntKind.i64 y.o.delay, AV.int IntKind.i64 y.o.expiry] = OutS.c o_1 ∧ (TxS.Ok t_2 ∧ TxB t_2 ∧ OutS.Ok o_1 ∧ (Bytes o_1.owner ∧ Bytes o_1.other) ∧ (-9223372036854775808 ≤ y.since ∧ y.since < 9223372036854775808) ∧ -9223372036854775808 ≤ y.height ∧ y.height < 9223372036854775808) ∧ iteB (F1 t y.i o y.since y.height == F2 t_2 y.i o_1 y.since y.height) (AV.bool true = AV.bool true) (AV.bool false = AV.bool true))
 False)
 False)
 False)
 False)
 False)
 False)
 False)
 False)
 False)
 False)
 False)
 False)
 False)
 False)
 False)
 False)
 False)
 False)
 False)
 False)
 False)
 False)
 False)
 False)
 False)
 False)
 False)
 False)
 False))
 (iteB (decide (false = b))
 (iteB (decide (y.i = y.i))
 (iteB (decide (y.since = y.since))
 (iteB (decide (y.height = y.height))
 (iteB (decide (y.tagged = y.tagged))
 (iteB (decide (t.N + 1 = y.t.N + 1))
 (RowsEq 0 [(4, 4), (3, 3), (1, 1), (0, 0)] (y.t.N + 1) (inRows g) (inRows (snoc t.N t.ins in77)) ∧
 iteB (decide (t.M + 1 = y.t.M + 1))
 (RowsEq 0 [(4, 4), (3, 3), (1, 1), (0, 0)] (y.t.M + 1) (outRows (snoc y.t.M y.t.outs out77)) (outRows (snoc t.M t.outs out77)) ∧
 iteB (decide (y.o.kind = y.o.kind))
 (iteB (decide (y.o.amount = y.o.amount))
 (y.o.owner = y.o.owner ∧
 y.o.other = y.o.other ∧
 y.o.point = y.o.point ∧
 y.o.hash = y.o.hash ∧
 iteB (decide (y.o.delay = y.o.delay))
 (iteB (decide (y.o.expiry = y.o.expiry))
 (iteB (decide (t.num = y.t.num))
 (iteB (decide (t.N = y.t.N))
 (iteB (decide (y.t.N + 1 ≤ t.N + 1))
 (iteB (decide (t.M = y.t.M))
 (iteB (decide (y.t.M + 1 ≤ t.M + 1))
 (TxS.Ok y.t ∧
 iteB (decide (0 + y.t.N ≤ y.t.N + 1))
 ((∀ (i : Nat), i < y.t.N → true = true) ∧
 iteB (decide (0 + y.t.M ≤ y.t.M + 1))
 ((∀ (i : Nat), i < y.t.M → true = true) ∧
 ∃ (t : TxS),
 ∃ (o : OutS),
 (t.num = y.t.num ∧ ((y.t.N = y.t.N ∧ t.N = y.t.N) ∧ ∀ (i : Nat), i < y.t.N → [AV.arr IntKind.u8 32 (g' i).name, AV.int IntKind.i64 (g' i).index, AV.int IntKind.i64 (g' i).way, AV.arr IntKind.u8 32 (g' i).tag, AV.arr IntKind.u8 32 (g' i).also, AV.arr IntKind.u8 32 (g' i).secret] = InS.c (t.ins i)) ∧ (y.t.M = y.t.M ∧ t.M = y.t.M) ∧ ∀ (i : Nat), i < y.t.M → [AV.int IntKind.i64 (snoc y.t.M y.t.outs out77 i).kind, AV.int IntKind.i64 (snoc y.t.M y.t.outs out77 i).amount, AV.arr IntKind.u8 32 (snoc y.t.M y.t.outs out77 i).owner, AV.arr IntKind.u8 32 (snoc y.t.M y.t.outs out77 i).other, AV.arr IntKind.u8 32 (snoc y.t.M y.t.outs out77 i).point, AV.arr IntKind.u8 32 (snoc y.t.M y.t.outs out77 i).hash, AV.int IntKind.i64 (snoc y.t.M y.t.outs out77 i).delay, AV.int IntKind.i64 (snoc y.t.M y.t.outs out77 i).expiry] = OutS.c (t.outs i)) ∧
 [AV.int IntKind.i64 y.o.kind, AV.int IntKind.i64 y.o.amount, AV.arr IntKind.u8 32 y.o.owner, AV.arr IntKind.u8 32 y.o.other, AV.arr IntKind.u8 32 y.o.point, AV.arr IntKind.u8 32 y.o.hash, AV.int IntKind.i64 y.o.delay, AV.int IntKind.i64 y.o.expiry] = OutS.c o ∧
 (TxS.Ok t ∧ OutS.Ok o ∧ (-9223372036854775808 ≤ y.since ∧ y.since < 9223372036854775808) ∧ -9223372036854775808 ≤ y.height ∧ y.height < 9223372036854775808) ∧
 iteB (decide (y.o.kind = y.o.kind))
 (iteB (decide (y.o.amount = y.o.amount))
 (y.o.owner = y.o.owner ∧
 y.o.other = y.o.other ∧
 y.o.point = y.o.point ∧
 y.o.hash = y.o.hash ∧
 iteB (decide (y.o.delay = y.o.delay))
 (iteB (decide (y.o.expiry = y.o.expiry))
 (iteB (decide (y.t.num = y.t.num))
 (iteB (decide (y.t.N = y.t.N))
 (iteB (decide (y.t.N + 1 = y.t.N + 1))
 (iteB (decide (y.t.M = y.t.M))
 (iteB (decide (y.t.M + 1 = y.t.M + 1))
 (iteB (decide (0 + y.t.N ≤ y.t.N + 1))
 ((∀ (i : Nat), i < y.t.N → true = true) ∧
 iteB (decide (0 + y.t.M ≤ y.t.M + 1))
 ((∀ (i : Nat), i < y.t.M → true = true) ∧
 ∃ (t_2 : TxS),
 ∃ (o_1 : OutS),
 (t_2.num = y.t.num ∧ ((y.t.N = y.t.N ∧ t_2.N = y.t.N) ∧ ∀ (i : Nat), i < y.t.N → [AV.arr IntKind.u8 32 (g' i).name, AV.int IntKind.i64 (g' i).index, AV.int IntKind.i64 (g' i).way, AV.arr IntKind.u8 32 (g' i).tag, AV.arr IntKind.u8 32 (g' i).also, AV.arr IntKind.u8 32 (g' i).secret] = InS.c (t_2.ins i)) ∧ (y.t.M = y.t.M ∧ t_2.M = y.t.M) ∧ ∀ (i : Nat), i < y.t.M → [AV.int IntKind.i64 (snoc y.t.M y.t.outs out77 i).kind, AV.int IntKind.i64 (snoc y.t.M y.t.outs out77 i).amount, AV.arr IntKind.u8 32 (snoc y.t.M y.t.outs out77 i).owner, AV.arr IntKind.u8 32 (snoc y.t.M y.t.outs out77 i).other, AV.arr IntKind.u8 32 (snoc y.t.M y.t.outs out77 i).point, AV.arr IntKind.u8 32 (snoc y.t.M y.t.outs out77 i).hash, AV.int IntKind.i64 (snoc y.t.M y.t.outs out77 i).delay, AV.int IntKind.i64 (snoc y.t.M y.t.outs out77 i).expiry] = OutS.c (t_2.outs i)) ∧
 [AV.int IntKind.i64 y.o.kind, AV.int IntKind.i64 y.o.amount, AV.arr IntKind.u8 32 y.o.owner, AV.arr IntKind.u8 32 y.o.other, AV.arr IntKind.u8 32 y.o.point, AV.arr IntKind.u8 32 y.o.hash, AV.int IntKind.i64 y.o.delay, AV.int IntKind.i64 y.o.expiry] = OutS.c o_1 ∧ (TxS.Ok t_2 ∧ TxB t_2 ∧ OutS.Ok o_1 ∧ (Bytes o_1.owner ∧ Bytes o_1.other) ∧ (-9223372036854775808 ≤ y.since ∧ y.since < 9223372036854775808) ∧ -9223372036854775808 ≤ y.height ∧ y.height < 9223372036854775808) ∧ iteB (F1 t y.i o y.since y.height == F2 t_2 y.i o_1 y.since y.height) (AV.bool true = AV.bool true) (AV.bool false = AV.bool true))
 False)
 False)
 False)
 False)
 False)
 False)
 False)
 False)
 False)
 False)
 False)
 False)
 False)
 False)
 False)
 False)
 False)
 False)
 False)
 False)
 False)
 False)
 False)
 False)
 False)
 False)
 False)
 False)
 False))
 False)
 False))
 (AV.bool true = AV.bool true)) (by kernel_rfl) ?_
  try simp only [need_eq]
  try simp only [nope_eq]
  try simp only [iteD_eq]
  try simp only [iteT_eq]
  try simp only [iteF_eq]
  try simp only [iteE_eq]
  try simp only [Int.toNat_natCast, Nat.zero_add, true_and, and_true, Nat.le_refl]
  refine ⟨fun h1 => ⟨fun h2 => trivial, fun h2 => ?_⟩, fun h1 => trivial⟩
  have ht := hok (by omega) (by simp at h2; omega)
  have h3 : y.t.M ≤ 30 := by simp at h2; omega
  subst hg
  have hi : ∀ i, i < y.t.N → [AV.arr IntKind.u8 32 (snoc y.t.N y.t.ins in77 i).name, .int .i64 (snoc y.t.N y.t.ins in77 i).index, .int .i64 (snoc y.t.N y.t.ins in77 i).way, .arr .u8 32 (snoc y.t.N y.t.ins in77 i).tag, .arr .u8 32 (snoc y.t.N y.t.ins in77 i).also, .arr .u8 32 (snoc y.t.N y.t.ins in77 i).secret] = (y.t.ins i).c := fun i h => by
    have : snoc y.t.N y.t.ins in77 i = y.t.ins i := by unfold snoc; rw [if_neg (by omega)]
    rw [this]; rfl
  have ho : ∀ i, i < y.t.M → [AV.int IntKind.i64 (snoc y.t.M y.t.outs out77 i).kind, .int .i64 (snoc y.t.M y.t.outs out77 i).amount, .arr .u8 32 (snoc y.t.M y.t.outs out77 i).owner, .arr .u8 32 (snoc y.t.M y.t.outs out77 i).other, .arr .u8 32 (snoc y.t.M y.t.outs out77 i).point, .arr .u8 32 (snoc y.t.M y.t.outs out77 i).hash, .int .i64 (snoc y.t.M y.t.outs out77 i).delay, .int .i64 (snoc y.t.M y.t.outs out77 i).expiry] = (y.t.outs i).c := fun i h => by
    have : snoc y.t.M y.t.outs out77 i = y.t.outs i := by unfold snoc; rw [if_neg (by omega)]
    rw [this]; rfl
  have hr1 : ∀ τ, RowsEq 0 τ (y.t.N + 1) (inRows (snoc y.t.N y.t.ins in77)) (inRows (snoc y.t.N y.t.ins in77)) := fun _ => inRowsEq fun _ _ => rfl
  have hr2 : ∀ τ, RowsEq 0 τ (y.t.M + 1) (outRows (snoc y.t.M y.t.outs out77)) (outRows (snoc y.t.M y.t.outs out77)) := fun _ => outRowsEq fun _ _ => rfl
  have k4 := k4 ht
  have hF := hF ht
  have hFb : (F1 (y.t3 g') y.i y.o y.since y.height == F2 (y.t3 g') y.i y.o y.since y.height) = true := by rw [hF]; exact beq_self_eq_true _
  refine ⟨y.t, ⟨rfl, ⟨rfl, fun _ _ => rfl⟩, rfl, fun _ _ => rfl⟩, ⟨by omega, h3⟩, by omega, fun _ _ => trivial, by omega, fun _ _ => trivial, y.t, ⟨rfl, ⟨rfl, hi⟩, rfl, ho⟩, ht, hb, ?_⟩
  clear hok
  repeat' (first | (refine And.intro ?_ ?_) | intro _ | (refine ⟨y.t3 g', y.o, ⟨rfl, ⟨rfl, fun _ _ => rfl⟩, rfl, ho⟩, rfl, ⟨k4, k6, k8, k9⟩, ?_⟩) | (refine ⟨y.t3 g', y.o, ⟨rfl, ⟨rfl, fun _ _ => rfl⟩, rfl, ho⟩, rfl, ⟨k4, k5, k6, k7, k8, k9⟩, ?_⟩) | fail)
  all_goals first | exact hr1 _ | exact hr2 _ | rfl | omega | assumption | (simp_all; done)
structure SpS.Ok (y : SpS) : Prop where
  all : TxAll y.t
  o : y.o.Ok
  ob : y.o.By
def SpS.x0 (y : SpS) : InS := y.t.ins y.i.toNat
def SpS.b1 (y : SpS) : Bool := decide (bAnd .i64 y.tagged 1 > 0) && y.x0.way != 4
def SpS.b2 (y : SpS) : Bool := decide (bAnd .i64 y.tagged 2 > 0) && y.x0.way != 4
def SpS.b3 (y : SpS) : Bool := decide (bAnd .i64 y.tagged 4 > 0) && y.x0.way == 1
def SpS.x1 (y : SpS) : InS := ⟨y.x0.name, y.x0.index, y.x0.way, if y.b1 = true then tagD y.o.owner y.t else y.x0.tag, y.x0.also, y.x0.secret⟩
def SpS.x2 (y : SpS) : InS := ⟨y.x0.name, y.x0.index, y.x0.way, if y.b2 = true then tagD y.o.other y.t else y.x1.tag, y.x0.also, y.x0.secret⟩
def SpS.x3 (y : SpS) : InS := ⟨y.x0.name, y.x0.index, y.x0.way, y.x2.tag, if y.b3 = true then tagD y.o.other y.t else y.x0.also, y.x0.secret⟩
def SpS.b (y : SpS) : Bool := ckTx addM y.t && decide (y.i ≥ 0) && decide (y.i < y.t.N)
def SpS.g (y : SpS) : Nat → InS := snoc y.t.N y.t.ins in77
def SpS.g' (y : SpS) : Nat → InS := if y.b = true then (fun j => if j = y.i.toNat then y.x3 else y.g j) else y.g
theorem tagD_bytes' (k : List Int) (t : TxS) : Bytes (tagD k t) := by
  rw [tagD_hmac]
  unfold hmacR
  refine .of ?_
  unfold sumD rSum
  have hf : ∀ w, ∀ v ∈ four w, U8 v := fun w v hv => by
    unfold four toE at hv
    simp only [List.mem_cons, List.not_mem_nil, or_false] at hv
    rcases hv with h | h | h | h <;> rw [h] <;> exact wr8_U8 _
  intro v hv
  rw [toldX_four _ (sumN_len pressOk _ _)] at hv
  simp only [List.mem_append] at hv
  rcases hv with (((((((h | h) | h) | h) | h) | h) | h) | h) <;> exact hf _ v h
theorem len_ite' {p : Prop} [Decidable p] {a b : List Int} {n : Nat} (h1 : a.length = n) (h2 : b.length = n) : (if p then a else b).length = n := by split <;> assumption
theorem SpS.b_all {y : SpS} (h : y.b = true) : ckTx addM y.t = true ∧ 0 ≤ y.i ∧ y.i < y.t.N := by
  unfold SpS.b at h
  simp only [Bool.and_eq_true, decide_eq_true_eq] at h
  exact ⟨h.1.1, h.1.2, h.2⟩
theorem SpS.t3_ok {y : SpS} (ht : y.t.Ok) : (y.t3 y.g').Ok := by
  refine ⟨ht.n, ht.m, fun i hi => ?_, ht.outs⟩
  have h0 : (y.g i).Ok := by
    have : y.g i = y.t.ins i := by unfold SpS.g snoc; rw [if_neg]; exact Nat.ne_of_lt hi
    rw [this]; exact ht.ins i hi
  show (y.g' i).Ok
  unfold SpS.g'
  split
  · rename_i hb
    obtain ⟨_, b1, b2⟩ := b_all hb
    show (if i = y.i.toNat then y.x3 else y.g i).Ok
    split
    · obtain ⟨l1, l2, l3, l4⟩ := ht.ins y.i.toNat (by omega)
      exact ⟨l1, len_ite' (tagD_len _ _) (len_ite' (tagD_len _ _) l2), len_ite' (tagD_len _ _) l3, l4⟩
    · exact h0
  · exact h0
theorem SpS.t3_all {y : SpS} (h : y.Ok) : TxAll (y.t3 y.g') := by
  refine ⟨fun i hi => ?_, h.all.outs⟩
  have h0 : (y.g i).By := by
    have : y.g i = y.t.ins i := by unfold SpS.g snoc; rw [if_neg]; exact Nat.ne_of_lt hi
    rw [this]; exact h.all.ins i hi
  show (y.g' i).By
  unfold SpS.g'
  split
  · rename_i hb
    obtain ⟨_, b1, b2⟩ := b_all hb
    show (if i = y.i.toNat then y.x3 else y.g i).By
    split
    · obtain ⟨l1, l2, l3, l4⟩ := h.all.ins y.i.toNat (by omega)
      exact ⟨l1, (tagD_bytes' _ _).ite ((tagD_bytes' _ _).ite l2), (tagD_bytes' _ _).ite l3, l4⟩
    · exact h0
  · exact h0
theorem E67c_ok {y : SpS} (h : y.Ok) : (E67c addM tagD spendP spendD y y.b y.g y.g').Ok := by
  have hT : (E67t tagD).Ok := Env2.withP_ok G0_ok tagD_ok
  have f : ∀ b : Bool, b = false → ¬ b = true := fun b hb => by rw [hb]; decide
  have hg : ∀ i, i < y.t.N → y.g i = y.t.ins i := fun i hi => by unfold SpS.g snoc; rw [if_neg]; exact Nat.ne_of_lt hi
  have hB : (E67b y.t.Fine tagD y y.b1 y.b2 y.b3 y.g y.x0 y.x1 y.x2 y.x3).Ok := by
    unfold E67b
    refine Env2.withL_join (Env2.withL_join (Env2.withJ (N := 20) hT (by kernel_rfl) fun hf => ?_) (H := E67t tagD) rfl (Env2.withJ (N := 20) hT (by kernel_rfl) fun hf => ?_)) (H := E67t tagD) rfl (Env2.withJ (N := 20) hT (by kernel_rfl) fun hf => ?_)
    · exact sp_45 tagD y y.b1 y.g y.x0 _ hg h.o.owner (fun _ => hf) (fun hb => if_pos hb) (fun hb => if_neg (f _ hb))
    · exact sp_58 tagD y y.b2 y.g y.x1 _ hg h.o.other (fun _ => hf) (fun hb => if_pos hb) (fun hb => if_neg (f _ hb))
    · exact sp_71 tagD y y.b3 y.g y.x2 _ hg h.o.other (fun _ => hf) (fun hb => if_pos hb) (fun hb => if_neg (f _ hb))
  unfold E67c
  refine Env2.withL_join E67_ok (H := E67b y.t.Fine tagD y y.b1 y.b2 y.b3 y.g y.x0 y.x1 y.x2 y.x3) rfl (Env2.withJ (N := 20) hB (by kernel_rfl) fun ht => ?_)
  refine sp_32 y.t.Fine tagD y y.b y.b1 y.b2 y.b3 y.g y.g' y.x0 y.x1 y.x2 y.x3 y.i.toNat (fun hb => ckTx_fine ht (SpS.b_all hb).1) (fun hb => (SpS.b_all hb).2) rfl (fun hb => hg _ (by have := (SpS.b_all hb).2; omega)) (fun hb j _ => ?_) (fun hb => ?_) rfl rfl rfl rfl rfl
  · unfold SpS.g'; rw [if_pos hb]
  · unfold SpS.g'; rw [if_neg (f _ hb)]
end Go.Tk
end
section
namespace Go.Tk
theorem fits_out1 {a : AV} (h : FitsA true outTy a) : ∃ o : OutS, a = .agg o.c ∧ o.Ok ∧ o.By := by
  cases h with | agg _ u h =>
  obtain ⟨o, rfl, h1, h2⟩ := fits_out h
  exact ⟨o, rfl, h1, h2⟩
theorem txspends_walk {us : List AV} (h : FitsL [(true, txTy), (false, [.int .i64]), (true, outTy), (false, [.int .i64]), (false, [.int .i64]), (false, [.int .i64])] us) : CallsA PP 6 us ⟨0, []⟩ fun o h' => ∃ v, o = .ret v ∧ h' = ⟨0, []⟩ ∧ v = .bool true := by
  cases h with | cons _ _ a1 _ _ h1 h =>
  cases h with | cons _ _ a2 _ _ h2 h =>
  cases h with | cons _ _ a3 _ _ h3 h =>
  cases h with | cons _ _ a4 _ _ h4 h =>
  cases h with | cons _ _ a5 _ _ h5 h =>
  cases h with | cons _ _ a6 _ _ h6 h =>
  cases h
  obtain ⟨l, t, rfl, t1, t2, t3⟩ := fits_tx h1
  obtain ⟨o, rfl, o1, o2⟩ := fits_out1 h3
  cases h2 with | one _ _ h2 =>
  cases h4 with | one _ _ h4 =>
  cases h5 with | one _ _ h5 =>
  cases h6 with | one _ _ h6 =>
  cases h2 with | int _ i w2 =>
  cases h4 with | int _ since w4 =>
  cases h5 with | int _ height w5 =>
  cases h6 with | int _ tagged w6 =>
  have q1 := i64_of w4
  have q2 := i64_of w5
  have hy : (SpS.mk t o i since height tagged).Ok := ⟨t3, o1, o2⟩
  have hc := outV_ev (h := ⟨0, []⟩) (E67c_ok hy) rfl (sq_1 addM tagD spendP spendD (SpS.mk t o i since height tagged) _ _ _ t2 t3.b rfl rfl (fun ht => SpS.t3_ok ht) (SpS.t3_all hy).b o1 ⟨o2.owner, o2.other⟩ ⟨q1.1, by show since < _; omega⟩ ⟨q2.1, by show height < _; omega⟩ fun ht => (spend_eq (SpS.t3_ok ht) (SpS.t3_all hy) o1 o2).symm) (fun u hu => hu)
  exact CallsA.conv hc fun E rs hr => hr.head (fun _ hc => t1.rel hc) (fun _ hc => hc)
end Go.Tk
namespace Go.Proofs.YtmfcmlajhaedgaaGreat.txSpends
open Go.ChangeShapes Go.WideShapes Go.ChangeAt Go.RowKit
theorem own : ownKnob Tryz.prog.godebug = none := by kernel_rfl
theorem laidOut : laidOutB Tryz.prog = true := by kernel_rfl
set_option maxRecDepth 100000 in
theorem lifted (os : Os) (started : os.Started) (H : Type) (enc : TypeId × Value → H) :
    ReturnsInHanded {} Tryz.checked os 6 .any (Rows.txSpendsSpec.pre6 enc Tryz.prog Tryz.f6 Rows.txSpendsRow.domain false) (Rows.txSpendsSpec.post enc Tryz.prog Tryz.f6 false true false false) :=
  Go.Tk.lifted_gen (C := Tryz.checked) (m := 8) (τs := [(true, Go.Tk.txTy), (false, [.int .i64]), (true, Go.Tk.outTy), (false, [.int .i64]), (false, [.int .i64]), (false, [.int .i64])]) own laidOut started (by kernel_rfl) Tryz.func6
    (ChangeSpec.witness6 (enc := enc) (C := Tryz.checked) false ⟨#[], #[.agg #[.int .i64 0, .slice none 0 0, .slice none 0 0], .int .i64 0, .agg (#[.int .i64 0, .int .i64 0] ++ Array.replicate 128 (.int .u8 0) ++ #[.int .i64 0, .int .i64 0]), .int .i64 0, .int .i64 0, .int .i64 0], []⟩ 8 (by kernel_rfl) (by kernel_rfl) (by kernel_rfl) (by kernel_rfl))
    rfl (tb := 4) rfl Tryz.underlying4 (by kernel_rfl) (by kernel_rfl) (fun ds h => by
      match ds, h with
      | [a, b, c, d, e, f], _ => rfl) fun us h => Go.Tk.txspends_walk h
theorem over : Rows.txSpendsRow.holds Tryz.pinned (OpenSpec.ofChange Rows.txSpendsSpec) :=
  OpenClaim.holds_of_wide 6 Tryz.f6 rfl rfl rfl rfl rfl rfl rfl ⟨rfl, rfl, rfl, rfl, rfl⟩ rfl rfl rfl rfl rfl (by kernel_rfl) Tryz.func6 (by kernel_rfl)
    (of_decide_eq_true (by kernel_rfl)) (by unfold Func.isWrapper; first | (rw [if_pos (by decide +kernel)]; kernel_rfl) | (rw [if_neg (by decide +kernel)]; exact ⟨rfl, rfl⟩))
    (fun os started H enc _ => lifted os started H enc)
theorem proved : Rows.TxSpendsSaid := over
end Go.Proofs.YtmfcmlajhaedgaaGreat.txSpends
end
