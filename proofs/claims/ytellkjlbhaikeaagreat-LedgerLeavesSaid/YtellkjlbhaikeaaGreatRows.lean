/-
  No cell of these rows narrows 'for every input' (looked for: loops, veiled, ifaces, maps, wideKeys, modest, calm, conditions, laid).
  DERIVED. THE GIVEN ROWS OF THIS SEAT. 4 by the template 'for every input the law returns true; each argument reads behind the call as it read before'; 0 by the template 'total and deterministic' (their statements: YtellkjlbhaikeaaGreatTotals.lean).
  GIVEN WITH THE SEED: the statements are not yours to turn. If you find one false, say at which input.
  Laid BY PROGRAM, IN A SANDBOX (cutbox-rows.mjs): the forced cells as the released guide's own fill.sh prints them over the translation e951646fae6582ce… (all of the seat's roots in one cut). By AI agents, Wed Nov 11 2026. No macro, syntax, notation, axiom, sorry.
-/
import Derived.Test.YtellkjlbhaikeaaGreatChecked
import GoSem.Claim
import GoSem.ClaimJoined
import GoSem.ClaimMapViews
import Derived.JoinedTies
import Derived.KernelRfl
namespace Go.Proofs.YtellkjlbhaikeaaGreat
/- THE CELL 'sum', in the pinned program and in every row, IS THE sha256 OF THE DUMP (.gsa) THAT YtellkjlbhaikeaaGreatProg.lean LOADS. Nothing in Lean hashes anything: it is a label: what it is worth is what the hold of that sum in a sandbox is worth. -/
noncomputable def Tryz.pinned : Pinned := { name := "ytellkjlbhaikeaagreat", sum := "e951646fae6582cea7cfd08eb0b90091535f19fcb31da9a75d85c27ef54a404a", checked := Tryz.checked }
namespace Rows
def none {H : Type} : Left H := { results := [], args := [] }

/-- 'tallysticklaw10.LedgerLeaves': WHATEVER THE INPUT: true; the input reads as it did. -/
def ledgerLeavesSpec : ChangeSpec := { name := "ledgerLeaves", fn := fun _ => fun
  | [d1, d2, d3] => { results := [.lit (.bool true)], args := [d1, d2, d3] }
  | _ => none }
def ledgerLeavesRow : OpenClaim := { program := "ytellkjlbhaikeaagreat", sum := "e951646fae6582cea7cfd08eb0b90091535f19fcb31da9a75d85c27ef54a404a", func := "tallystick/tallysticklaw10.LedgerLeaves", spec := "ledgerLeaves", unfollowed := true, recurses := true, apart := false }
def LedgerLeavesSaid : Prop := ledgerLeavesRow.holds Tryz.pinned (OpenSpec.ofChange ledgerLeavesSpec)

/-- ITS FALSE NEIGHBOUR: 'it returns false'. Refute it at one input. -/
def ledgerLeavesWrong : ChangeSpec := { name := "ledgerLeaves", fn := fun _ => fun
  | [d1, d2, d3] => { results := [.lit (.bool false)], args := [d1, d2, d3] }
  | _ => none }
def LedgerLeavesWrongFalsely : Prop := ledgerLeavesRow.holds Tryz.pinned (OpenSpec.ofChange ledgerLeavesWrong)

/-- 'tallysticklaw10.LedgerPlays': WHATEVER THE INPUT: true; the input reads as it did. -/
def ledgerPlaysSpec : ChangeSpec := { name := "ledgerPlays", fn := fun _ => fun
  | [d1, d2, d3, d4, d5, d6] => { results := [.lit (.bool true)], args := [d1, d2, d3, d4, d5, d6] }
  | _ => none }
def ledgerPlaysRow : OpenClaim := { program := "ytellkjlbhaikeaagreat", sum := "e951646fae6582cea7cfd08eb0b90091535f19fcb31da9a75d85c27ef54a404a", func := "tallystick/tallysticklaw10.LedgerPlays", spec := "ledgerPlays", unfollowed := true, recurses := true, apart := false }
def LedgerPlaysSaid : Prop := ledgerPlaysRow.holds Tryz.pinned (OpenSpec.ofChange ledgerPlaysSpec)

/-- ITS FALSE NEIGHBOUR: 'it returns false'. Refute it at one input. -/
def ledgerPlaysWrong : ChangeSpec := { name := "ledgerPlays", fn := fun _ => fun
  | [d1, d2, d3, d4, d5, d6] => { results := [.lit (.bool false)], args := [d1, d2, d3, d4, d5, d6] }
  | _ => none }
def LedgerPlaysWrongFalsely : Prop := ledgerPlaysRow.holds Tryz.pinned (OpenSpec.ofChange ledgerPlaysWrong)

/-- 'tallysticklaw10.LedgerNews': WHATEVER THE INPUT: true; the input reads as it did. -/
def ledgerNewsSpec : ChangeSpec := { name := "ledgerNews", fn := fun _ => fun
  | [d1, d2, d3, d4, d5] => { results := [.lit (.bool true)], args := [d1, d2, d3, d4, d5] }
  | _ => none }
def ledgerNewsRow : OpenClaim := { program := "ytellkjlbhaikeaagreat", sum := "e951646fae6582cea7cfd08eb0b90091535f19fcb31da9a75d85c27ef54a404a", func := "tallystick/tallysticklaw10.LedgerNews", spec := "ledgerNews", unfollowed := true, recurses := true, apart := false }
def LedgerNewsSaid : Prop := ledgerNewsRow.holds Tryz.pinned (OpenSpec.ofChange ledgerNewsSpec)

/-- ITS FALSE NEIGHBOUR: 'it returns false'. Refute it at one input. -/
def ledgerNewsWrong : ChangeSpec := { name := "ledgerNews", fn := fun _ => fun
  | [d1, d2, d3, d4, d5] => { results := [.lit (.bool false)], args := [d1, d2, d3, d4, d5] }
  | _ => none }
def LedgerNewsWrongFalsely : Prop := ledgerNewsRow.holds Tryz.pinned (OpenSpec.ofChange ledgerNewsWrong)

/-- 'tallysticklaw10.LedgerCopies': WHATEVER THE INPUT: true; the input reads as it did. -/
def ledgerCopiesSpec : ChangeSpec := { name := "ledgerCopies", fn := fun _ => fun
  | [d1, d2, d3] => { results := [.lit (.bool true)], args := [d1, d2, d3] }
  | _ => none }
def ledgerCopiesRow : OpenClaim := { program := "ytellkjlbhaikeaagreat", sum := "e951646fae6582cea7cfd08eb0b90091535f19fcb31da9a75d85c27ef54a404a", func := "tallystick/tallysticklaw10.LedgerCopies", spec := "ledgerCopies", unfollowed := true, recurses := true, apart := false }
def LedgerCopiesSaid : Prop := ledgerCopiesRow.holds Tryz.pinned (OpenSpec.ofChange ledgerCopiesSpec)

/-- ITS FALSE NEIGHBOUR: 'it returns false'. Refute it at one input. -/
def ledgerCopiesWrong : ChangeSpec := { name := "ledgerCopies", fn := fun _ => fun
  | [d1, d2, d3] => { results := [.lit (.bool false)], args := [d1, d2, d3] }
  | _ => none }
def LedgerCopiesWrongFalsely : Prop := ledgerCopiesRow.holds Tryz.pinned (OpenSpec.ofChange ledgerCopiesWrong)

/- THE SECOND FORM. 'bulk': how many values and letters a reading holds, each counted each time it is reached (what is shared counts as often as it is met; a slice's spare places count too). A statement '..UptoSaid' is the law's where the arguments, and the package variables that the reading takes, are together of bulk at most 1048576: NARROWER than '..Said'. Prove '..Said' where nothing that the law and all that it calls make is longer than what came in: it says more and counts as full. Else prove '..UptoSaid'. A law counts once. -/
mutual
def uptoBulk {H : Type} : DataW H → Nat
  | .lit (.string bytes) => bytes.length + 1
  | .lit _ => 1
  | .nil => 1
  | .ptr d => uptoBulk d + 1
  | .slice elems spare => uptoBulkAll elems + uptoBulkAll spare + 1
  | .agg parts => uptoBulkAll parts + 1
  | .iface _ d => uptoBulk d + 1
  | .map entries => uptoBulkEntries entries + 1
  | .held _ => 1
def uptoBulkAll {H : Type} : List (DataW H) → Nat
  | [] => 0
  | d :: r => uptoBulk d + uptoBulkAll r
def uptoBulkEntries {H : Type} : List (Lit × DataW H) → Nat
  | [] => 0
  | x :: r => uptoBulkEntry x + uptoBulkEntries r
def uptoBulkEntry {H : Type} : Lit × DataW H → Nat
  | (.string bytes, d) => bytes.length + uptoBulk d + 1
  | (_, d) => uptoBulk d + 1
 end
def uptoSmall : (H : Type) → List (DataW H) → Bool := fun _ ds => decide (uptoBulkAll ds ≤ 1048576)
def OpenSpec.upto (s : _root_.Go.ChangeSpec) : _root_.Go.OpenSpec := { _root_.Go.OpenSpec.ofChange s with cond := some uptoSmall }

/-- 'tallysticklaw10.LedgerLeaves', WHERE WHAT IT READS IS OF BULK AT MOST 1048576: true; the input reads as it did. -/
def ledgerLeavesUptoRow : OpenClaim := { program := "ytellkjlbhaikeaagreat", sum := "e951646fae6582cea7cfd08eb0b90091535f19fcb31da9a75d85c27ef54a404a", func := "tallystick/tallysticklaw10.LedgerLeaves", spec := "ledgerLeaves", unfollowed := true, recurses := true, apart := false, narrowed := true }
def LedgerLeavesUptoSaid : Prop := ledgerLeavesUptoRow.holds Tryz.pinned (OpenSpec.upto ledgerLeavesSpec)

/-- 'tallysticklaw10.LedgerPlays', WHERE WHAT IT READS IS OF BULK AT MOST 1048576: true; the input reads as it did. -/
def ledgerPlaysUptoRow : OpenClaim := { program := "ytellkjlbhaikeaagreat", sum := "e951646fae6582cea7cfd08eb0b90091535f19fcb31da9a75d85c27ef54a404a", func := "tallystick/tallysticklaw10.LedgerPlays", spec := "ledgerPlays", unfollowed := true, recurses := true, apart := false, narrowed := true }
def LedgerPlaysUptoSaid : Prop := ledgerPlaysUptoRow.holds Tryz.pinned (OpenSpec.upto ledgerPlaysSpec)

/-- 'tallysticklaw10.LedgerNews', WHERE WHAT IT READS IS OF BULK AT MOST 1048576: true; the input reads as it did. -/
def ledgerNewsUptoRow : OpenClaim := { program := "ytellkjlbhaikeaagreat", sum := "e951646fae6582cea7cfd08eb0b90091535f19fcb31da9a75d85c27ef54a404a", func := "tallystick/tallysticklaw10.LedgerNews", spec := "ledgerNews", unfollowed := true, recurses := true, apart := false, narrowed := true }
def LedgerNewsUptoSaid : Prop := ledgerNewsUptoRow.holds Tryz.pinned (OpenSpec.upto ledgerNewsSpec)

/-- 'tallysticklaw10.LedgerCopies', WHERE WHAT IT READS IS OF BULK AT MOST 1048576: true; the input reads as it did. -/
def ledgerCopiesUptoRow : OpenClaim := { program := "ytellkjlbhaikeaagreat", sum := "e951646fae6582cea7cfd08eb0b90091535f19fcb31da9a75d85c27ef54a404a", func := "tallystick/tallysticklaw10.LedgerCopies", spec := "ledgerCopies", unfollowed := true, recurses := true, apart := false, narrowed := true }
def LedgerCopiesUptoSaid : Prop := ledgerCopiesUptoRow.holds Tryz.pinned (OpenSpec.upto ledgerCopiesSpec)

end Rows
end Go.Proofs.YtellkjlbhaikeaaGreat
