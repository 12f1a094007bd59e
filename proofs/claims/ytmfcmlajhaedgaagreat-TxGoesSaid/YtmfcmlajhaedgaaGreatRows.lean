/-
  No cell of these rows narrows 'for every input' (looked for: loops, veiled, ifaces, maps, wideKeys, modest, calm, conditions, laid).
  DERIVED. THE GIVEN ROWS OF THIS SEAT. 7 by the template 'for every input the law returns true; each argument reads behind the call as it read before'; 0 by the template 'total and deterministic' (their statements: YtmfcmlajhaedgaaGreatTotals.lean).
  GIVEN WITH THE SEED: the statements are not yours to turn. If you find one false, say at which input.
  Laid BY PROGRAM, IN A SANDBOX (cutbox-rows.mjs): the forced cells as the released guide's own fill.sh prints them over the translation 854d11c5cf5207cf… (all of the seat's roots in one cut). By AI agents, Wed Nov 11 2026. No macro, syntax, notation, axiom, sorry.
-/
import Derived.Test.YtmfcmlajhaedgaaGreatChecked
import GoSem.Claim
import GoSem.ClaimJoined
import GoSem.ClaimMapViews
import Derived.JoinedTies
import Derived.KernelRfl
namespace Go.Proofs.YtmfcmlajhaedgaaGreat
/- THE CELL 'sum', in the pinned program and in every row, IS THE sha256 OF THE DUMP (.gsa) THAT YtmfcmlajhaedgaaGreatProg.lean LOADS. Nothing in Lean hashes anything: it is a label: what it is worth is what the hold of that sum in a sandbox is worth. -/
noncomputable def Tryz.pinned : Pinned := { name := "ytmfcmlajhaedgaagreat", sum := "854d11c5cf5207cf656257df1a80a816a03b268faa87256acc30c4870a94a13a", checked := Tryz.checked }
namespace Rows
def none {H : Type} : Left H := { results := [], args := [] }

/-- 'tallysticklaw07.TxParses': WHATEVER THE INPUT: true; the input reads as it did. -/
def txParsesSpec : ChangeSpec := { name := "txParses", fn := fun _ => fun
  | [d] => { results := [.lit (.bool true)], args := [d] }
  | _ => none }
def txParsesRow : OpenClaim := { program := "ytmfcmlajhaedgaagreat", sum := "854d11c5cf5207cf656257df1a80a816a03b268faa87256acc30c4870a94a13a", func := "tallystick/tallysticklaw07.TxParses", spec := "txParses", inPlace := ["internal/bytealg.Compare"], unfollowed := true, recurses := true, apart := false }
def TxParsesSaid : Prop := txParsesRow.holds Tryz.pinned (OpenSpec.ofChange txParsesSpec)

/-- ITS FALSE NEIGHBOUR: 'it returns false'. Refute it at one input. -/
def txParsesWrong : ChangeSpec := { name := "txParses", fn := fun _ => fun
  | [d] => { results := [.lit (.bool false)], args := [d] }
  | _ => none }
def TxParsesWrongFalsely : Prop := txParsesRow.holds Tryz.pinned (OpenSpec.ofChange txParsesWrong)

/-- 'tallysticklaw07.TxBent': WHATEVER THE INPUT: true; the input reads as it did. -/
def txBentSpec : ChangeSpec := { name := "txBent", fn := fun _ => fun
  | [d1, d2, d3, d4] => { results := [.lit (.bool true)], args := [d1, d2, d3, d4] }
  | _ => none }
def txBentRow : OpenClaim := { program := "ytmfcmlajhaedgaagreat", sum := "854d11c5cf5207cf656257df1a80a816a03b268faa87256acc30c4870a94a13a", func := "tallystick/tallysticklaw07.TxBent", spec := "txBent", inPlace := ["internal/bytealg.Compare"], unfollowed := true, recurses := true, apart := false }
def TxBentSaid : Prop := txBentRow.holds Tryz.pinned (OpenSpec.ofChange txBentSpec)

/-- ITS FALSE NEIGHBOUR: 'it returns false'. Refute it at one input. -/
def txBentWrong : ChangeSpec := { name := "txBent", fn := fun _ => fun
  | [d1, d2, d3, d4] => { results := [.lit (.bool false)], args := [d1, d2, d3, d4] }
  | _ => none }
def TxBentWrongFalsely : Prop := txBentRow.holds Tryz.pinned (OpenSpec.ofChange txBentWrong)

/-- 'tallysticklaw07.TxNames': WHATEVER THE INPUT: true; the input reads as it did. -/
def txNamesSpec : ChangeSpec := { name := "txNames", fn := fun _ => fun
  | [d1, d2] => { results := [.lit (.bool true)], args := [d1, d2] }
  | _ => none }
def txNamesRow : OpenClaim := { program := "ytmfcmlajhaedgaagreat", sum := "854d11c5cf5207cf656257df1a80a816a03b268faa87256acc30c4870a94a13a", func := "tallystick/tallysticklaw07.TxNames", spec := "txNames", inPlace := ["internal/bytealg.Compare"], unfollowed := true, recurses := true, apart := false }
def TxNamesSaid : Prop := txNamesRow.holds Tryz.pinned (OpenSpec.ofChange txNamesSpec)

/-- ITS FALSE NEIGHBOUR: 'it returns false'. Refute it at one input. -/
def txNamesWrong : ChangeSpec := { name := "txNames", fn := fun _ => fun
  | [d1, d2] => { results := [.lit (.bool false)], args := [d1, d2] }
  | _ => none }
def TxNamesWrongFalsely : Prop := txNamesRow.holds Tryz.pinned (OpenSpec.ofChange txNamesWrong)

/-- 'tallysticklaw07.TxSpends': WHATEVER THE INPUT: true; the input reads as it did. -/
def txSpendsSpec : ChangeSpec := { name := "txSpends", fn := fun _ => fun
  | [d1, d2, d3, d4, d5, d6] => { results := [.lit (.bool true)], args := [d1, d2, d3, d4, d5, d6] }
  | _ => none }
def txSpendsRow : OpenClaim := { program := "ytmfcmlajhaedgaagreat", sum := "854d11c5cf5207cf656257df1a80a816a03b268faa87256acc30c4870a94a13a", func := "tallystick/tallysticklaw07.TxSpends", spec := "txSpends", inPlace := ["internal/bytealg.Compare"], unfollowed := true, recurses := true, apart := false }
def TxSpendsSaid : Prop := txSpendsRow.holds Tryz.pinned (OpenSpec.ofChange txSpendsSpec)

/-- ITS FALSE NEIGHBOUR: 'it returns false'. Refute it at one input. -/
def txSpendsWrong : ChangeSpec := { name := "txSpends", fn := fun _ => fun
  | [d1, d2, d3, d4, d5, d6] => { results := [.lit (.bool false)], args := [d1, d2, d3, d4, d5, d6] }
  | _ => none }
def TxSpendsWrongFalsely : Prop := txSpendsRow.holds Tryz.pinned (OpenSpec.ofChange txSpendsWrong)

/-- 'tallysticklaw07.TxWays': WHATEVER THE INPUT: true; the input reads as it did. -/
def txWaysSpec : ChangeSpec := { name := "txWays", fn := fun _ => fun
  | [d1, d2, d3, d4, d5, d6, d7, d8, d9, d10, d11] => { results := [.lit (.bool true)], args := [d1, d2, d3, d4, d5, d6, d7, d8, d9, d10, d11] }
  | _ => none }
def txWaysRow : OpenClaim := { program := "ytmfcmlajhaedgaagreat", sum := "854d11c5cf5207cf656257df1a80a816a03b268faa87256acc30c4870a94a13a", func := "tallystick/tallysticklaw07.TxWays", spec := "txWays", inPlace := ["internal/bytealg.Compare"], unfollowed := true, recurses := true, apart := false }
def TxWaysSaid : Prop := txWaysRow.holds Tryz.pinned (OpenSpec.ofChange txWaysSpec)

/-- ITS FALSE NEIGHBOUR: 'it returns false'. Refute it at one input. -/
def txWaysWrong : ChangeSpec := { name := "txWays", fn := fun _ => fun
  | [d1, d2, d3, d4, d5, d6, d7, d8, d9, d10, d11] => { results := [.lit (.bool false)], args := [d1, d2, d3, d4, d5, d6, d7, d8, d9, d10, d11] }
  | _ => none }
def TxWaysWrongFalsely : Prop := txWaysRow.holds Tryz.pinned (OpenSpec.ofChange txWaysWrong)

/-- 'tallysticklaw07.TxRaws': WHATEVER THE INPUT: true; the input reads as it did. -/
def txRawsSpec : ChangeSpec := { name := "txRaws", fn := fun _ => fun
  | [d] => { results := [.lit (.bool true)], args := [d] }
  | _ => none }
def txRawsRow : OpenClaim := { program := "ytmfcmlajhaedgaagreat", sum := "854d11c5cf5207cf656257df1a80a816a03b268faa87256acc30c4870a94a13a", func := "tallystick/tallysticklaw07.TxRaws", spec := "txRaws", inPlace := ["internal/bytealg.Compare"], unfollowed := true, recurses := true, apart := false }
def TxRawsSaid : Prop := txRawsRow.holds Tryz.pinned (OpenSpec.ofChange txRawsSpec)

/-- ITS FALSE NEIGHBOUR: 'it returns false'. Refute it at one input. -/
def txRawsWrong : ChangeSpec := { name := "txRaws", fn := fun _ => fun
  | [d] => { results := [.lit (.bool false)], args := [d] }
  | _ => none }
def TxRawsWrongFalsely : Prop := txRawsRow.holds Tryz.pinned (OpenSpec.ofChange txRawsWrong)

/-- 'tallysticklaw07.TxGoes': WHATEVER THE INPUT: true; the input reads as it did. -/
def txGoesSpec : ChangeSpec := { name := "txGoes", fn := fun _ => fun
  | [d1, d2, d3, d4] => { results := [.lit (.bool true)], args := [d1, d2, d3, d4] }
  | _ => none }
def txGoesRow : OpenClaim := { program := "ytmfcmlajhaedgaagreat", sum := "854d11c5cf5207cf656257df1a80a816a03b268faa87256acc30c4870a94a13a", func := "tallystick/tallysticklaw07.TxGoes", spec := "txGoes", inPlace := ["internal/bytealg.Compare"], unfollowed := true, recurses := true, apart := false }
def TxGoesSaid : Prop := txGoesRow.holds Tryz.pinned (OpenSpec.ofChange txGoesSpec)

/-- ITS FALSE NEIGHBOUR: 'it returns false'. Refute it at one input. -/
def txGoesWrong : ChangeSpec := { name := "txGoes", fn := fun _ => fun
  | [d1, d2, d3, d4] => { results := [.lit (.bool false)], args := [d1, d2, d3, d4] }
  | _ => none }
def TxGoesWrongFalsely : Prop := txGoesRow.holds Tryz.pinned (OpenSpec.ofChange txGoesWrong)

/- THE SECOND FORM. 'bulk': how many values and letters a reading holds, each counted each time it is reached (what is shared counts as often as it is met; a slice's spare places count too). A statement '..UptoSaid' is the law's where the arguments, and the package variables that the reading takes, are together of bulk at most 1048576: NARROWER than '..Said'. Prove '..Said' where nothing that the law and all that it calls make is longer than what came in: it says more and counts as full. Else prove '..UptoSaid'. A law counts once. -/
mutual
def uptoBulk {H : Type} : DataW H → Nat
  | .lit (.string bytes) => bytes.length + 1
  | .lit _ => 1
  | .nil => 1
  | .ptr d => uptoBulk d + 1
  | .slice elems spare => uptoBulkAll elems + uptoBulkAll spare + 1
  | .agg parts => uptoBulkAll parts + 1
  | .iface _ d => uptoBulk d + 1
  | .map entries => uptoBulkEntries entries + 1
  | .held _ => 1
def uptoBulkAll {H : Type} : List (DataW H) → Nat
  | [] => 0
  | d :: r => uptoBulk d + uptoBulkAll r
def uptoBulkEntries {H : Type} : List (Lit × DataW H) → Nat
  | [] => 0
  | x :: r => uptoBulkEntry x + uptoBulkEntries r
def uptoBulkEntry {H : Type} : Lit × DataW H → Nat
  | (.string bytes, d) => bytes.length + uptoBulk d + 1
  | (_, d) => uptoBulk d + 1
 end
def uptoSmall : (H : Type) → List (DataW H) → Bool := fun _ ds => decide (uptoBulkAll ds ≤ 1048576)
def OpenSpec.upto (s : _root_.Go.ChangeSpec) : _root_.Go.OpenSpec := { _root_.Go.OpenSpec.ofChange s with cond := some uptoSmall }

/-- 'tallysticklaw07.TxParses', WHERE WHAT IT READS IS OF BULK AT MOST 1048576: true; the input reads as it did. -/
def txParsesUptoRow : OpenClaim := { program := "ytmfcmlajhaedgaagreat", sum := "854d11c5cf5207cf656257df1a80a816a03b268faa87256acc30c4870a94a13a", func := "tallystick/tallysticklaw07.TxParses", spec := "txParses", inPlace := ["internal/bytealg.Compare"], unfollowed := true, recurses := true, apart := false, narrowed := true }
def TxParsesUptoSaid : Prop := txParsesUptoRow.holds Tryz.pinned (OpenSpec.upto txParsesSpec)

/-- 'tallysticklaw07.TxBent', WHERE WHAT IT READS IS OF BULK AT MOST 1048576: true; the input reads as it did. -/
def txBentUptoRow : OpenClaim := { program := "ytmfcmlajhaedgaagreat", sum := "854d11c5cf5207cf656257df1a80a816a03b268faa87256acc30c4870a94a13a", func := "tallystick/tallysticklaw07.TxBent", spec := "txBent", inPlace := ["internal/bytealg.Compare"], unfollowed := true, recurses := true, apart := false, narrowed := true }
def TxBentUptoSaid : Prop := txBentUptoRow.holds Tryz.pinned (OpenSpec.upto txBentSpec)

/-- 'tallysticklaw07.TxNames', WHERE WHAT IT READS IS OF BULK AT MOST 1048576: true; the input reads as it did. -/
def txNamesUptoRow : OpenClaim := { program := "ytmfcmlajhaedgaagreat", sum := "854d11c5cf5207cf656257df1a80a816a03b268faa87256acc30c4870a94a13a", func := "tallystick/tallysticklaw07.TxNames", spec := "txNames", inPlace := ["internal/bytealg.Compare"], unfollowed := true, recurses := true, apart := false, narrowed := true }
def TxNamesUptoSaid : Prop := txNamesUptoRow.holds Tryz.pinned (OpenSpec.upto txNamesSpec)

/-- 'tallysticklaw07.TxSpends', WHERE WHAT IT READS IS OF BULK AT MOST 1048576: true; the input reads as it did. -/
def txSpendsUptoRow : OpenClaim := { program := "ytmfcmlajhaedgaagreat", sum := "854d11c5cf5207cf656257df1a80a816a03b268faa87256acc30c4870a94a13a", func := "tallystick/tallysticklaw07.TxSpends", spec := "txSpends", inPlace := ["internal/bytealg.Compare"], unfollowed := true, recurses := true, apart := false, narrowed := true }
def TxSpendsUptoSaid : Prop := txSpendsUptoRow.holds Tryz.pinned (OpenSpec.upto txSpendsSpec)

/-- 'tallysticklaw07.TxWays', WHERE WHAT IT READS IS OF BULK AT MOST 1048576: true; the input reads as it did. -/
def txWaysUptoRow : OpenClaim := { program := "ytmfcmlajhaedgaagreat", sum := "854d11c5cf5207cf656257df1a80a816a03b268faa87256acc30c4870a94a13a", func := "tallystick/tallysticklaw07.TxWays", spec := "txWays", inPlace := ["internal/bytealg.Compare"], unfollowed := true, recurses := true, apart := false, narrowed := true }
def TxWaysUptoSaid : Prop := txWaysUptoRow.holds Tryz.pinned (OpenSpec.upto txWaysSpec)

/-- 'tallysticklaw07.TxRaws', WHERE WHAT IT READS IS OF BULK AT MOST 1048576: true; the input reads as it did. -/
def txRawsUptoRow : OpenClaim := { program := "ytmfcmlajhaedgaagreat", sum := "854d11c5cf5207cf656257df1a80a816a03b268faa87256acc30c4870a94a13a", func := "tallystick/tallysticklaw07.TxRaws", spec := "txRaws", inPlace := ["internal/bytealg.Compare"], unfollowed := true, recurses := true, apart := false, narrowed := true }
def TxRawsUptoSaid : Prop := txRawsUptoRow.holds Tryz.pinned (OpenSpec.upto txRawsSpec)

/-- 'tallysticklaw07.TxGoes', WHERE WHAT IT READS IS OF BULK AT MOST 1048576: true; the input reads as it did. -/
def txGoesUptoRow : OpenClaim := { program := "ytmfcmlajhaedgaagreat", sum := "854d11c5cf5207cf656257df1a80a816a03b268faa87256acc30c4870a94a13a", func := "tallystick/tallysticklaw07.TxGoes", spec := "txGoes", inPlace := ["internal/bytealg.Compare"], unfollowed := true, recurses := true, apart := false, narrowed := true }
def TxGoesUptoSaid : Prop := txGoesUptoRow.holds Tryz.pinned (OpenSpec.upto txGoesSpec)

end Rows
end Go.Proofs.YtmfcmlajhaedgaaGreat
