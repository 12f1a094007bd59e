/- K: part 7 of an engine (a symbolic evaluator, proved against the model) and of the walk by it. -/
import Derived.Test.YtellkjlbhaikeaaGreatK6
import Derived.Test.YtellkjlbhaikeaaGreatRows
import Derived.ChangeOld
set_option linter.unusedVariables false
set_option linter.unusedSimpArgs false
set_option maxRecDepth 100000
set_option maxHeartbeats 0
section
namespace Go.Tk
open IntKind (i64 u8 u32 u64 wrap)
theorem Zeq : tW.Ok := ⟨rfl, rfl, Z0e (by decide), Z0e (by decide)⟩
theorem ZbR (H : List Int → List Int) : Yo H (XQ tW 0 50 600 400) = true := Z3G.2 ⟨by decide, by decide, by decide, by decide, by decide, by decide⟩
theorem ZbS {a : AV} (h : Z2c true actTy a) : ∃ y : Y2, a = .agg y.c ∧ y.Ok := by
 cases h with | agg _ u h =>
 obtain ⟨y, rfl, hy⟩ := Z5U h
 exact ⟨y, rfl, hy⟩
theorem ledgerleaves_walk {us : List AV} (h : Z3l [(false, [.rows 41 actTy]), (false, [.int .i64]), (true, actTy)] us) : Zo PP 3 us ⟨0, []⟩ fun o h' => ∃ v, o = .ret v ∧ h' = ⟨0, []⟩ ∧ v = .bool true := by
 cases h with | cons _ _ a _ _ h1 h =>
 cases h with | cons _ _ b _ _ h2 h =>
 cases h with | cons _ _ c _ _ h3 h =>
 cases h
 obtain ⟨n, A, hn, hA, hr⟩ := Z9q h1
 obtain ⟨many, rfl⟩ := fits_int h2
 obtain ⟨y, rfl, hy⟩ := ZbS h3
 have hb := ZbR Zq
 have hI0 : (XQ tW 0 50 600 400).Inv Zq := (ZcF Zeq (fun h hh => by cases hh)).1 hb
 have hE := ZbQ (XQ tW 0 50 600 400) (lpX (XQ tW 0 50 600 400) A n) A many y n (lpX (XQ tW 0 50 600 400) A n).L.length
 have hv := Zif Zq (XQ tW 0 50 600 400) (lpX (XQ tW 0 50 600 400) A n) A many y n _ (Zfu (XQ tW 0 50 600 400) A n) (fun i => lpX (XQ tW 0 50 600 400) A i) tW rfl rfl hb Zeq (fun h30 => ⟨by omega, hn, hI0, rfl, hA⟩) rfl (fun h30 => (Z4C hI0 hA n (by omega)).1) rfl hy
 exact (Yf (h := ⟨0, []⟩) hE rfl hv (fun u hu => hu)).conv fun E r hr0 => hr0.head (fun _ hc => hr E _ hc) fun _ hc => hc
end Go.Tk
namespace Go.Proofs.YtellkjlbhaikeaaGreat.ledgerLeaves
open Go.ChangeShapes Go.WideShapes Go.ChangeAt Go.RowKit
theorem own : ownKnob Tryz.prog.godebug = none := by kernel_rfl
theorem laidOut : laidOutB Tryz.prog = true := by kernel_rfl
theorem lifted (os : Os) (started : os.Started) (H : Type) (enc : TypeId × Value → H) :
  ReturnsInHanded {} Tryz.checked os 3 .any (Rows.ledgerLeavesSpec.pre6 enc Tryz.prog Tryz.f3 Rows.ledgerLeavesRow.domain false) (Rows.ledgerLeavesSpec.post enc Tryz.prog Tryz.f3 false true false false) :=
 Go.Tk.lifted_gen (C := Tryz.checked) (m := 8) (τs := [(false, [.rows 41 Go.Tk.actTy]), (false, [.int .i64]), (true, Go.Tk.actTy)]) own laidOut started (by kernel_rfl) Tryz.func3
  (ChangeSpec.witness6 (enc := enc) (C := Tryz.checked) false ⟨#[], #[.slice none 0 0, .int .i64 0, .agg (#[.int .i64 0, .bool false, .int .i64 0, .int .i64 0, .int .i64 0] ++ Array.replicate 32 (.int .u8 0) ++ #[.int .i64 0, .int .i64 0, .bool false, .int .i64 0])], []⟩ 8 (by kernel_rfl) (by kernel_rfl) (by kernel_rfl) (by kernel_rfl))
  rfl (tb := 4) rfl Tryz.underlying4 (by kernel_rfl) (by kernel_rfl) (fun ds h => by
   match ds, h with
   | [a, b, c], _ => rfl) fun us h => Go.Tk.ledgerleaves_walk h
theorem ZfB : Tryz.pinned.checked.prog.funcNamed Rows.ledgerLeavesRow.func = some 3 := by kernel_rfl
theorem closed : joinedFacts Tryz.pinned.checked.prog 3 Tryz.f3 Rows.ledgerLeavesSpec Rows.ledgerLeavesRow = true := by
 unfold joinedFacts
 repeat' with_reducible refine Go.Tk.and_mk ?_ ?_
 all_goals as_aux_lemma => kernel_rfl
theorem over : Rows.ledgerLeavesRow.holds Tryz.pinned (OpenSpec.ofChange Rows.ledgerLeavesSpec) :=
 OpenClaim.holds_of_wide 3 Tryz.f3 rfl rfl rfl rfl rfl rfl rfl ⟨rfl, rfl, rfl, rfl, rfl⟩ rfl rfl rfl rfl rfl ZfB Tryz.func3 closed
  (of_decide_eq_true (by kernel_rfl)) (by unfold Func.isWrapper; first | (rw [if_pos (by decide +kernel)]; kernel_rfl) | (rw [if_neg (by decide +kernel)]; exact ⟨rfl, rfl⟩))
  (fun os started H enc _ => lifted os started H enc)
theorem proved : Rows.LedgerLeavesSaid := over
end Go.Proofs.YtellkjlbhaikeaaGreat.ledgerLeaves
end
