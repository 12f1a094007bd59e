/- H: part 7 of an engine (a symbolic evaluator, proved against the model) and of the walk by it. -/
import Derived.Test.YtbeiehggdcpdbaaGreatH6
import Derived.Test.YtbeiehggdcpdbaaGreatRows
import Derived.ChangeOld
set_option linter.unusedVariables false
set_option linter.unusedSimpArgs false
set_option maxRecDepth 100000
set_option maxHeartbeats 0
section
namespace Go.Tk
open IntKind (i64 u8 u32 u64 wrap)
theorem Zdx (l : List Int) (i : Nat) : (l.take (i + 1)).sum = (l.take i).sum + l.getD i 0 := by
 rw [List.getD_eq_getElem?_getD]
 by_cases h : i < l.length
 ·rw [List.take_succ_eq_append_getElem h, List.sum_append, List.getElem?_eq_getElem h]; simp
 ·rw [List.take_of_length_le (by omega), List.take_of_length_le (by omega), List.getElem?_eq_none (by omega)]; simp
def Z70 (t : Zo) (s : ShS) (L : List Ze) : List Int := if decide (plN L (-1) L.length < 0) = true then [W9 t s] else []
def Z17 (t : Zo) (s : ShS) (L : List Ze) : List Int := Z70 t s L ++ if decide (plN L (-2) L.length < 0) = true then [X7 t s] else []
def hoP (t : Zo) (s : ShS) (sec : List Int) (hgt : Int) (L : List Ze) : HoP where
 t := t
 num := s.num
 point := s.point
 a0 := s.a0
 a1 := s.a1
 m := s.n
 g := s.g
 sec := sec
 hgt := hgt
 L := L
 n := L.length
 u0 := fun i => t.fee + (amL (ZK L) i).sum
 ot := plN L (-2) L.length
 X := plX L L.length s.n
 m0 := s.a0 - t.fee
 m1 := s.a1
 V1 := Z70 t s L
 V2 := Z17 t s L
 b1 := decide (plN L (-1) L.length < 0)
 b2 := decide (plN L (-2) L.length < 0)
 W := loL t.dust s (Z17 t s L)
 u4 := fun i => t.fee + (amL (ZK L) L.length).sum + ((loL t.dust s (Z17 t s L) s.n).take i).sum
 Z := QX (swX (Ys (txM t s.num L)) (UH t s) (X8 sec (plN L (-2) L.length) L.length) L.length (amM L)) (UH t s) (UH t s)
theorem ZfO {t : Zo} {s : ShS} : Z17 t s (Zp (Zj t s)) = loB t.dust (W9 t s) (X7 t s) := by
 have e1 : Z70 t s (Zp (Zj t s)) = if t.dust ≤ W9 t s then [] else [W9 t s] := by
  unfold Z70
  have := ZfB (t := t) (s := s)
  by_cases h : t.dust ≤ W9 t s
  ·rw [if_pos h, if_neg (by rw [decide_eq_true_eq, this]; exact fun k => k h)]
  ·rw [if_neg h, if_pos (by rw [decide_eq_true_eq, this]; exact h)]
 have e2 : (if decide (plN (Zp (Zj t s)) (-2) (Zp (Zj t s)).length < 0) = true then [X7 t s] else []) = if t.dust ≤ X7 t s then [] else [X7 t s] := by
  have := ZfC (t := t) (s := s)
  by_cases h : t.dust ≤ X7 t s
  ·rw [if_pos h, if_neg (by rw [decide_eq_true_eq, this]; exact fun k => k h)]
  ·rw [if_neg h, if_pos (by rw [decide_eq_true_eq, this]; exact h)]
 unfold Z17 loB
 rw [e1, e2]
theorem hoM {t : Zo} {s : ShS} (h : HoC t s) (h0 : (Zj t s).length ≠ 0) {sec : List Int} {hgt : Int} (hsec : sec.length = 32) (hu : ∀ x ∈ sec, U8 x) (hpt : s.point = YS WQ sec) (hh : 0 ≤ hgt ∧ hgt < 9223372036854775808) :
  HoM ZS V7 Ys YY (YS WQ) QX (hoP t s sec hgt (Zp (Zj t s))) s.owner (UH t s) (amM (Zp (Zj t s))) := by
 have ho := Z3d h.ht h.hs (by have := h.hn; omega) h.hb
 have hl : (Zp (Zj t s)).length = (Zj t s).length := ZU
 have hlen := ho.len
 have hsh := Wo.1 h.hb
 obtain ⟨x1, x2, x3, x4, x5, x6⟩ := h.term
 obtain ⟨a1, a2⟩ := h.amts
 have hS : (hoP t s sec hgt (Zp (Zj t s))).s s.owner = s := rfl
 have hLok : ∀ m ∈ Zp (Zj t s), m.Ok := Z4v ho.ok
 have hR : ∀ m ∈ Zp (Zj t s), ZL m.o = true := Z4v h.right
 have hw2 := ZfO (t := t) (s := s)
 have hsum : (amL (ZK (Zp (Zj t s))) (Zp (Zj t s)).length).sum = amM (Zp (Zj t s)) := by rw [Z16]; rfl
 have hle := h.le
 have hall := Z9y h.hb
 have hbl : ∀ x ∈ loL t.dust s (Z17 t s (Zp (Zj t s))) s.n, 0 ≤ x ∧ x < t.dust := by
  rw [hw2]
  exact Z8v (Zdo a1.1 a2.1) (fun i hi => by have := VN (h.pend hi); omega) s.n (Nat.le_refl _)
 have hll := Z9x t.dust s (Z17 t s (Zp (Zj t s))) s.n
 have hbl2 : (Z17 t s (Zp (Zj t s))).length ≤ 2 := by rw [hw2]; exact ZfE _ _ _
 have hT := h.ck h0
 have hturn := ZaS (t := t) (s := s) h.okb
 have htl : (Zp (Zj t (shT s))).length = (Zp (Zj t s)).length := by
  have := congrArg List.length hturn
  rwa [List.length_map, List.length_map] at this
 have hTx : (txM t s.num (Zp (Zj t s))).Ok := Zhr h.hf (by omega) hLok
 have hgo := h.go h0 (key := UH t s) hsec (other := plN (Zp (Zj t s)) (-2) (Zp (Zj t s)).length) rfl
 have hn20 := h.hn
 have hzok : (swX (Ys (txM t s.num (Zp (Zj t s)))) (UH t s) (X8 sec (plN (Zp (Zj t s)) (-2) (Zp (Zj t s)).length) (Zp (Zj t s)).length) (Zp (Zj t s)).length (amM (Zp (Zj t s)))).Ok := Zda (Z0W _) h.keys.2 (Z3p _ _ _) (by omega) (Z3q hsec)
 have hV1l : (Z70 t s (Zp (Zj t s))).length ≤ 10 := by
  unfold Z70
  split <;> simp
 refine ⟨h.ht, h.keys.2, h.hs, h.hn, hh, hsec, hpt, h.hb, ⟨rfl, rfl, by show (Zp (Zj t s)).length ≠ 0; omega⟩, ⟨rfl, rfl, by show (Zp (Zj t s)).length ≠ 0; omega, rfl, rfl, rfl, rfl⟩, by show (Zp (Zj t s)).length < 20; omega, hLok, ⟨by show (Zp (Zj t s)).length < 20; omega, x4, fun i hi => ?_, ?_, fun i => ?_⟩, rfl, rfl, ?_, rfl, ?_, ⟨hV1l, ?_⟩, ⟨h.hn, Z9z _ _ _, hbl2, rfl, fun k hk => ?_⟩, ⟨?_, ?_, fun i hi => ?_, x3.2, ?_, fun i => ?_⟩, ?_, Zdk (show s.n < 1000 by omega) h.hb, ZhK h.hs, htl.symm, fun i hi => ?_, Z8g, hTx, hT, hgo, hzok, fun _ _ _ => ⟨rfl, rfl, rfl, rfl⟩, rfl, ⟨Z9B hzok, by show (Zp (Zj t s)).length < 20; omega, hLok, rfl, ⟨by show _ ≤ hgt; omega, hh.2⟩, fun i hi => ?_⟩, Z9B hTx, h.fund_ok.2, h.funds h0 hh.1, hsh.1⟩
 ·have hi : i < (Zp (Zj t s)).length := hi
  have := (Xe (hR ((Zp (Zj t s)).getD i ZI) (by rw [List.getD_eq_getElem?_getD, List.getElem?_eq_getElem hi]; exact List.getElem_mem hi))).2.1
  show 0 ≤ ((Zp (Zj t s)).getD i ZI).o.amount ∧ _
  exact ⟨by omega, this.2⟩
 ·show t.fee + (amL _ 0).sum = t.fee
  simp [amL]
 ·show t.fee + (amL _ (i + 1)).sum = t.fee + (amL _ i).sum + _
  rw [Z6n, List.sum_append]
  show _ = t.fee + (amL _ i).sum + (ZK (Zp (Zj t s)) i).amount
  simp
  omega
 ·show i64.wrap (s.a0 - t.fee) = s.a0 - t.fee
  exact w64 ho.fee
 ·show Z70 t s _ = if _ then [if s.owner = 0 then s.a0 - t.fee else s.a1] else []
  rfl
 ·show Z17 t s _ = Z70 t s _ ++ if _ then [if s.owner = 0 then s.a1 else s.a0 - t.fee] else []
  rfl
 ·have hk : k < s.n := hk
  show loL t.dust s _ (k + 1) = loL t.dust s _ k ++ if (plX (Zp (Zj t s)) (Zp (Zj t s)).length s.n).getD (s.n - 1 - k) 0 < 0 then [(s.g (s.n - 1 - k)).amount] else []
  have e : (plX (Zp (Zj t s)) (Zp (Zj t s)).length s.n).getD (s.n - 1 - k) 0 = plN (Zp (Zj t s)) ((s.n - 1 - k : Nat) : Int) (Zp (Zj t s)).length := by
   unfold plX
   have : s.n - 1 - k < s.n := by omega
   simp [List.getD_eq_getElem?_getD, this]
  rw [e]
  have := ZhL (t := t) (s := s) (i := s.n - 1 - k) (by omega)
  simp only [loL]
  by_cases hd : t.dust ≤ (s.g (s.n - 1 - k)).amount
  ·rw [if_pos hd, if_neg (by rw [this]; exact fun k => k hd)]
  ·rw [if_neg hd, if_pos (by rw [this]; exact hd)]
 ·show (loL t.dust s _ s.n).length ≤ 30
  omega
 ·show 0 ≤ t.fee + (amL _ (Zp (Zj t s)).length).sum ∧ t.fee + (amL _ (Zp (Zj t s)).length).sum ≤ _
  rw [hsum]; omega
 ·have hi : i < (loL t.dust s (Z17 t s (Zp (Zj t s))) s.n).length := hi
  show 0 ≤ (loL t.dust s (Z17 t s (Zp (Zj t s))) s.n).getD i 0 ∧ _
  refine hbl _ ?_
  rw [List.getD_eq_getElem?_getD, List.getElem?_eq_getElem hi]
  exact List.getElem_mem hi
 ·show t.fee + (amL _ (Zp (Zj t s)).length).sum + (List.take 0 _).sum = _
  simp
  rfl
 ·show _ + (List.take (i + 1) _).sum = _ + (List.take i _).sum + _
  rw [Zdx, ← Int.add_assoc]
  rfl
 ·show t.fee + (amL _ (Zp (Zj t s)).length).sum + (List.take (loL t.dust s (Z17 t s (Zp (Zj t s))) s.n).length _).sum = t.cap
  rw [hsum]
  show _ + (List.take _ (loL t.dust s (Z17 t s (Zp (Zj t s))) s.n)).sum = _
  rw [List.take_length, hw2]
  exact hall
 ·have hi : i < (Zp (Zj t s)).length := hi
  show ((Zp (Zj t (shT s))).getD i ZI).o = ((Zp (Zj t s)).getD i ZI).o
  have h1 : ((Zp (Zj t (shT s))).map erM)[i]? = ((Zp (Zj t s)).map erM)[i]? := by rw [hturn]
  rw [List.getElem?_map, List.getElem?_map, List.getElem?_eq_getElem hi, List.getElem?_eq_getElem (by omega)] at h1
  rw [List.getD_eq_getElem?_getD, List.getD_eq_getElem?_getD, List.getElem?_eq_getElem hi, List.getElem?_eq_getElem (by omega)]
  simp only [Option.map_some, Option.some.injEq] at h1
  have h2 := congrArg Ze.o h1
  exact h2
 ·have hi : i < (Zp (Zj t s)).length := hi
  exact h.spends h0 hsec (by rw [hpt, ZcJ hsec hu]) rfl hh.1 hi
theorem Zdy (p : HoP) : (ZfN ZS V7 Ys YY (YS WQ) QX p 0).Ok := by
 have g0 : (((((((((G0.withP 23 (U2 YY)).withP 8 Va).withP 21 (WG (YS WQ))).withP 22 (Z5h V7)).withP 24 Z6E).withF 9 (ZfK ZS)).withF 10 (ZfL ZS)).withF 17 (Zfv ZS Ys 20)).withF 19 (ZfM ZS QX)).Ok :=
  Zd.withF_ok (Zd.withF_ok (Zd.withF_ok (Zd.withF_ok (Zd.withP_ok (Zd.withP_ok (Zd.withP_ok (Zd.withP_ok (Zd.withP_ok Zu Z13) VK) (QP (B := 100000) (fun xs hx => Z12 xs (by omega)) (by decide) Z0o)) Z4e) Z6F) (fun a h K hl => Z3e a h K (Z6X hl))) (fun a h K hl => Z9A a h K (Z6Y hl))) (Z9r Z9p)) Z9I
 exact Zd.withL_join (H := G0) (Zd.withL_join (H := G0) (Zd.withL_join (H := G0.withP 23 (U2 YY)) (Zd.withL_join (H := G0) (Zd.withL_join (H := G0) (Zd.withL_join (H := G0) (Zd.withL_join (H := G0) g0 rfl (Z9D p 0)) rfl (Z9E p 0)) rfl (Z9F p 0)) rfl (Z9G p 0)) rfl (Z9H p 0)) rfl (Zdt p)) rfl (Zdu p)
theorem Zdz (p : HoP) : (ZfN ZS V7 Ys YY (YS WQ) QX p 1).Ok := by
 have g0 : (((((((((G0.withP 23 (U2 YY)).withP 8 Va).withP 21 (WG (YS WQ))).withP 22 (Z5h V7)).withP 24 Z6E).withF 9 (ZfK ZS)).withF 10 (ZfL ZS)).withF 17 (Zfv ZS Ys 20)).withF 19 (ZfM ZS QX)).Ok :=
  Zd.withF_ok (Zd.withF_ok (Zd.withF_ok (Zd.withF_ok (Zd.withP_ok (Zd.withP_ok (Zd.withP_ok (Zd.withP_ok (Zd.withP_ok Zu Z13) VK) (QP (B := 100000) (fun xs hx => Z12 xs (by omega)) (by decide) Z0o)) Z4e) Z6F) (fun a h K hl => Z3e a h K (Z6X hl))) (fun a h K hl => Z9A a h K (Z6Y hl))) (Z9r Z9p)) Z9I
 exact Zd.withL_join (H := G0) (Zd.withL_join (H := G0) (Zd.withL_join (H := G0.withP 23 (U2 YY)) (Zd.withL_join (H := G0) (Zd.withL_join (H := G0) (Zd.withL_join (H := G0) (Zd.withL_join (H := G0) g0 rfl (Z9D p 1)) rfl (Z9E p 1)) rfl (Z9F p 1)) rfl (Z9G p 1)) rfl (Z9H p 1)) rfl (Zdv p)) rfl (Zdw p)
theorem ZdA {t : Zo} {s : ShS} {sec : List Int} {hgt : Int} (ht : t.Ok) (hf : t.fund.length = 32) (hs : s.Ok) (hsec : sec.length = 32) (hu : ∀ x ∈ sec, U8 x) (hh : hgt < 9223372036854775808) : Zk PP 6 [.agg t.c, .agg s.c, .agg [.arr .u8 32 sec], .int .i64 hgt] ⟨0, []⟩ fun o h' => ∃ v, o = .ret v ∧ h' = ⟨0, []⟩ ∧ v = .bool true := by
 have hP : ∀ args h K, WG (YS WQ) args h K → Zk PP 21 args h fun o h' => ∃ v, o = .ret v ∧ h' = h ∧ K v := QP (B := 100000) (fun xs hx => Z12 xs (by omega)) (by decide) Z0o
 by_cases hn : s.n ≤ 20 ∧ 0 ≤ hgt
 ·obtain ⟨hn, h0⟩ := hn
  have hs1 : (⟨s.num, s.owner, YS WQ sec, s.a0, s.a1, s.n, s.g⟩ : ShS).Ok := ⟨Z8d _, hs.a0, hs.g⟩
  cases hb : shB ZS t ⟨s.num, s.owner, YS WQ sec, s.a0, s.a1, s.n, s.g⟩ with
  | false => exact XL (h := ⟨0, []⟩) (Zd.withF_ok (Zd.withF_ok (Zd.withP_ok (Zd.withP_ok Zu VK) hP) (fun a h K hl => Z3e a h K (Zdr hl))) Z5q) rfl (Zl4 ZS _ t s _ sec hgt ht hn h0 hsec hs1 rfl hb) (fun u hu => hu)
  | true =>
   rcases Nat.eq_zero_or_pos (Zj t ⟨s.num, s.owner, YS WQ sec, s.a0, s.a1, s.n, s.g⟩).length with hz | hz
   ·exact XL (h := ⟨0, []⟩) (Zd.withF_ok (Zd.withF_ok (Zd.withP_ok (Zd.withP_ok Zu VK) hP) (fun a h K hl => Z3e a h K (Zds hl))) Z5q) rfl (Zl5 ZS _ t s _ sec hgt ht hn h0 hsec hs1 rfl hb hz) (fun u hu => hu)
   ·have hC : HoC t ⟨s.num, s.owner, YS WQ sec, s.a0, s.a1, s.n, s.g⟩ := ⟨ht, hf, hs1, hn, hb⟩
    have hM := hoM hC (by omega) hsec hu rfl ⟨h0, hh⟩
    have how := (Wo.1 hb).2.2.1
    obtain ⟨num, owner, point, a0, a1, m, g⟩ := s
    have ho : owner = 0 ∨ owner = 1 := by
     have : 0 ≤ owner ∧ owner ≤ 1 := how
     omega
    rcases ho with rfl | rfl
    ·exact XL (h := ⟨0, []⟩) (Zdy _) rfl (Zl6 ZS V7 Ys YY (YS WQ) QX _ point _ hM) (fun u hu => hu)
    ·exact XL (h := ⟨0, []⟩) (Zdz _) rfl (Zl7 ZS V7 Ys YY (YS WQ) QX _ point _ hM) (fun u hu => hu)
 ·exact XL (h := ⟨0, []⟩) (Zd.withP_ok (Zd.withP_ok Zu VK) (fun a h K hl => hl.elim)) rfl (Zl3 t s sec hgt hn) (fun u hu => hu)
end Go.Tk
end
section
namespace Go.Tk
open IntKind (i64 u8 u32 u64 wrap)
theorem ZaW {a : AV} (h : Z2V true [.arr .u8 32] a) : ∃ xs : List Int, a = .agg [.arr .u8 32 xs] ∧ xs.length = 32 ∧ Bytes xs := by
 cases h with | agg _ u h =>
 cases h with | cons _ a _ u h1 h =>
 cases h; cases h1
 rename_i xs l w
 exact ⟨xs, by simp, l, Zcs l w⟩
theorem commitholds_walk {us : List AV} (h : Z4f [(true, termTy), (true, sharesTy), (true, [.arr .u8 32]), (false, [.int .i64])] us) : Zk PP 6 us ⟨0, []⟩ fun o h' => ∃ v, o = .ret v ∧ h' = ⟨0, []⟩ ∧ v = .bool true := by
 cases h with | cons _ _ a _ _ h1 h =>
 cases h with | cons _ _ b _ _ h2 h =>
 cases h with | cons _ _ c _ _ h3 h =>
 cases h with | cons _ _ d _ _ h4 h =>
 cases h
 obtain ⟨t, rfl, ht, hf⟩ := Z8h h1
 obtain ⟨l, s, rfl, hs, ho⟩ := Z6Z h2
 obtain ⟨sec, rfl, c1, c2⟩ := ZaW h3
 cases h4 with | one _ _ h4 => cases h4 with | int k x hx =>
 have hx2 : x < 9223372036854775808 := by
  have m2 : i64.max = 9223372036854775807 := rfl
  simp [Lit.wf] at hx
  omega
 exact (ZdA ht hf ho c1 (fun x hx => c2.u8 x hx) hx2).conv fun E r hr => hr.head (fun _ hc => hc) (fun _ hc => hc.head (fun _ hc => hs.rel hc) (fun _ hc => hc))
end Go.Tk
namespace Go.Proofs.YtbeiehggdcpdbaaGreat.commitHolds
open Go.ChangeShapes Go.WideShapes Go.ChangeAt Go.RowKit
theorem own : ownKnob Tryz.prog.godebug = none := by kernel_rfl
theorem laidOut : laidOutB Tryz.prog = true := by kernel_rfl
theorem lifted (os : Os) (started : os.Started) (H : Type) (enc : TypeId × Value → H) :
  ReturnsInHanded {} Tryz.checked os 6 .any (Rows.commitHoldsSpec.pre6 enc Tryz.prog Tryz.f6 Rows.commitHoldsRow.domain false) (Rows.commitHoldsSpec.post enc Tryz.prog Tryz.f6 false true false false) :=
 Go.Tk.lifted_gen (C := Tryz.checked) (m := 8) (τs := [(true, Go.Tk.termTy), (true, Go.Tk.sharesTy), (true, [.arr .u8 32]), (false, [.int .i64])]) own laidOut started (by kernel_rfl) Tryz.func6
  (ChangeSpec.witness6 (enc := enc) (C := Tryz.checked) false ⟨#[], #[.agg (Array.replicate 32 (.int .u8 0) ++ #[.int .i64 0, .int .i64 0, .int .i64 0, .int .i64 0, .int .i64 0] ++ Array.replicate 64 (.int .u8 0)), .agg (#[.int .i64 0, .int .i64 0] ++ Array.replicate 32 (.int .u8 0) ++ #[.int .i64 0, .int .i64 0, .slice none 0 0]), .agg (Array.replicate 32 (.int .u8 0)), .int .i64 0], []⟩ 8 (by kernel_rfl) (by kernel_rfl) (by kernel_rfl) (by kernel_rfl))
  rfl (tb := 4) rfl Tryz.underlying4 (by kernel_rfl) (by kernel_rfl) (fun ds h => by
   match ds, h with
   | [a, b, c, d], _ => rfl) fun us h => Go.Tk.commitholds_walk h
theorem ZhO : Tryz.pinned.checked.prog.funcNamed Rows.commitHoldsRow.func = some 6 := by kernel_rfl
theorem closed : joinedFacts Tryz.pinned.checked.prog 6 Tryz.f6 Rows.commitHoldsSpec Rows.commitHoldsRow = true := by
 unfold joinedFacts
 repeat' with_reducible refine Go.Tk.and_mk ?_ ?_
 all_goals as_aux_lemma => kernel_rfl
theorem over : Rows.commitHoldsRow.holds Tryz.pinned (OpenSpec.ofChange Rows.commitHoldsSpec) :=
 OpenClaim.holds_of_wide 6 Tryz.f6 rfl rfl rfl rfl rfl rfl rfl ⟨rfl, rfl, rfl, rfl, rfl⟩ rfl rfl rfl rfl rfl ZhO Tryz.func6 closed
  (of_decide_eq_true (by kernel_rfl)) (by unfold Func.isWrapper; first | (rw [if_pos (by decide +kernel)]; kernel_rfl) | (rw [if_neg (by decide +kernel)]; exact ⟨rfl, rfl⟩))
  (fun os started H enc _ => lifted os started H enc)
theorem proved : Rows.CommitHoldsSaid := over
end Go.Proofs.YtbeiehggdcpdbaaGreat.commitHolds
end
