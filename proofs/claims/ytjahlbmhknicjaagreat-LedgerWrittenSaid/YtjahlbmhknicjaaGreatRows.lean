/-
  No cell of these rows narrows 'for every input' (looked for: loops, veiled, ifaces, maps, wideKeys, modest, calm, conditions, laid).
  DERIVED. THE GIVEN ROWS OF THIS SEAT. 4 by the template 'for every input the law returns true; each argument reads behind the call as it read before'; 0 by the template 'total and deterministic' (their statements: YtjahlbmhknicjaaGreatTotals.lean).
  GIVEN WITH THE SEED: the statements are not yours to turn. If you find one false, say at which input.
  Laid BY PROGRAM, IN A SANDBOX (cutbox-rows.mjs): the forced cells as the released guide's own fill.sh prints them over the translation 6fe56afe12d3c1a6… (all of the seat's roots in one cut). By AI agents, Wed Nov 11 2026. No macro, syntax, notation, axiom, sorry.
-/
import Derived.Test.YtjahlbmhknicjaaGreatChecked
import GoSem.Claim
import GoSem.ClaimJoined
import GoSem.ClaimMapViews
import Derived.JoinedTies
import Derived.KernelRfl
namespace Go.Proofs.YtjahlbmhknicjaaGreat
/- THE CELL 'sum', in the pinned program and in every row, IS THE sha256 OF THE DUMP (.gsa) THAT YtjahlbmhknicjaaGreatProg.lean LOADS. Nothing in Lean hashes anything: it is a label: what it is worth is what the hold of that sum in a sandbox is worth. -/
noncomputable def Tryz.pinned : Pinned := { name := "ytjahlbmhknicjaagreat", sum := "6fe56afe12d3c1a6c6a6cfe2708e122df714e1a6d9f6e428cebe356e6c76b6b5", checked := Tryz.checked }
namespace Rows
def none {H : Type} : Left H := { results := [], args := [] }

/-- 'tallysticklaw10.LedgerCopies': WHATEVER THE INPUT: true; the input reads as it did. -/
def ledgerCopiesSpec : ChangeSpec := { name := "ledgerCopies", fn := fun _ => fun
  | [d1, d2, d3] => { results := [.lit (.bool true)], args := [d1, d2, d3] }
  | _ => none }
def ledgerCopiesRow : OpenClaim := { program := "ytjahlbmhknicjaagreat", sum := "6fe56afe12d3c1a6c6a6cfe2708e122df714e1a6d9f6e428cebe356e6c76b6b5", func := "tallystick/tallysticklaw10.LedgerCopies", spec := "ledgerCopies", unfollowed := true, recurses := true, plainKeys := false, apart := false }
def LedgerCopiesSaid : Prop := ledgerCopiesRow.holds Tryz.pinned (OpenSpec.ofChange ledgerCopiesSpec)

/-- ITS FALSE NEIGHBOUR: 'it returns false'. Refute it at one input. -/
def ledgerCopiesWrong : ChangeSpec := { name := "ledgerCopies", fn := fun _ => fun
  | [d1, d2, d3] => { results := [.lit (.bool false)], args := [d1, d2, d3] }
  | _ => none }
def LedgerCopiesWrongFalsely : Prop := ledgerCopiesRow.holds Tryz.pinned (OpenSpec.ofChange ledgerCopiesWrong)

/-- 'tallysticklaw10.LedgerReads': WHATEVER THE INPUT: true; the input reads as it did. -/
def ledgerReadsSpec : ChangeSpec := { name := "ledgerReads", fn := fun _ => fun
  | [d] => { results := [.lit (.bool true)], args := [d] }
  | _ => none }
def ledgerReadsRow : OpenClaim := { program := "ytjahlbmhknicjaagreat", sum := "6fe56afe12d3c1a6c6a6cfe2708e122df714e1a6d9f6e428cebe356e6c76b6b5", func := "tallystick/tallysticklaw10.LedgerReads", spec := "ledgerReads", unfollowed := true, recurses := true, plainKeys := false, apart := false }
def LedgerReadsSaid : Prop := ledgerReadsRow.holds Tryz.pinned (OpenSpec.ofChange ledgerReadsSpec)

/-- ITS FALSE NEIGHBOUR: 'it returns false'. Refute it at one input. -/
def ledgerReadsWrong : ChangeSpec := { name := "ledgerReads", fn := fun _ => fun
  | [d] => { results := [.lit (.bool false)], args := [d] }
  | _ => none }
def LedgerReadsWrongFalsely : Prop := ledgerReadsRow.holds Tryz.pinned (OpenSpec.ofChange ledgerReadsWrong)

/-- 'tallysticklaw10.LedgerWritten': WHATEVER THE INPUT: true; the input reads as it did. -/
def ledgerWrittenSpec : ChangeSpec := { name := "ledgerWritten", fn := fun _ => fun
  | [d1, d2, d3, d4, d5, d6, d7, d8, d9] => { results := [.lit (.bool true)], args := [d1, d2, d3, d4, d5, d6, d7, d8, d9] }
  | _ => none }
def ledgerWrittenRow : OpenClaim := { program := "ytjahlbmhknicjaagreat", sum := "6fe56afe12d3c1a6c6a6cfe2708e122df714e1a6d9f6e428cebe356e6c76b6b5", func := "tallystick/tallysticklaw10.LedgerWritten", spec := "ledgerWritten", unfollowed := true, recurses := true, plainKeys := false, apart := false }
def LedgerWrittenSaid : Prop := ledgerWrittenRow.holds Tryz.pinned (OpenSpec.ofChange ledgerWrittenSpec)

/-- ITS FALSE NEIGHBOUR: 'it returns false'. Refute it at one input. -/
def ledgerWrittenWrong : ChangeSpec := { name := "ledgerWritten", fn := fun _ => fun
  | [d1, d2, d3, d4, d5, d6, d7, d8, d9] => { results := [.lit (.bool false)], args := [d1, d2, d3, d4, d5, d6, d7, d8, d9] }
  | _ => none }
def LedgerWrittenWrongFalsely : Prop := ledgerWrittenRow.holds Tryz.pinned (OpenSpec.ofChange ledgerWrittenWrong)

/-- 'tallysticklaw10.LedgerKeeps': WHATEVER THE INPUT: true; the input reads as it did. -/
def ledgerKeepsSpec : ChangeSpec := { name := "ledgerKeeps", fn := fun _ => fun
  | [d1, d2, d3] => { results := [.lit (.bool true)], args := [d1, d2, d3] }
  | _ => none }
def ledgerKeepsRow : OpenClaim := { program := "ytjahlbmhknicjaagreat", sum := "6fe56afe12d3c1a6c6a6cfe2708e122df714e1a6d9f6e428cebe356e6c76b6b5", func := "tallystick/tallysticklaw10.LedgerKeeps", spec := "ledgerKeeps", unfollowed := true, recurses := true, plainKeys := false, apart := false }
def LedgerKeepsSaid : Prop := ledgerKeepsRow.holds Tryz.pinned (OpenSpec.ofChange ledgerKeepsSpec)

/-- ITS FALSE NEIGHBOUR: 'it returns false'. Refute it at one input. -/
def ledgerKeepsWrong : ChangeSpec := { name := "ledgerKeeps", fn := fun _ => fun
  | [d1, d2, d3] => { results := [.lit (.bool false)], args := [d1, d2, d3] }
  | _ => none }
def LedgerKeepsWrongFalsely : Prop := ledgerKeepsRow.holds Tryz.pinned (OpenSpec.ofChange ledgerKeepsWrong)

/- THE SECOND FORM. 'bulk': how many values and letters a reading holds, each counted each time it is reached (what is shared counts as often as it is met; a slice's spare places count too). A statement '..UptoSaid' is the law's where the arguments, and the package variables that the reading takes, are together of bulk at most 1048576: NARROWER than '..Said'. Prove '..Said' where nothing that the law and all that it calls make is longer than what came in: it says more and counts as full. Else prove '..UptoSaid'. A law counts once. -/
mutual
def uptoBulk {H : Type} : DataW H → Nat
  | .lit (.string bytes) => bytes.length + 1
  | .lit _ => 1
  | .nil => 1
  | .ptr d => uptoBulk d + 1
  | .slice elems spare => uptoBulkAll elems + uptoBulkAll spare + 1
  | .agg parts => uptoBulkAll parts + 1
  | .iface _ d => uptoBulk d + 1
  | .map entries => uptoBulkEntries entries + 1
  | .held _ => 1
def uptoBulkAll {H : Type} : List (DataW H) → Nat
  | [] => 0
  | d :: r => uptoBulk d + uptoBulkAll r
def uptoBulkEntries {H : Type} : List (Lit × DataW H) → Nat
  | [] => 0
  | x :: r => uptoBulkEntry x + uptoBulkEntries r
def uptoBulkEntry {H : Type} : Lit × DataW H → Nat
  | (.string bytes, d) => bytes.length + uptoBulk d + 1
  | (_, d) => uptoBulk d + 1
 end
def uptoSmall : (H : Type) → List (DataW H) → Bool := fun _ ds => decide (uptoBulkAll ds ≤ 1048576)
def OpenSpec.upto (s : _root_.Go.ChangeSpec) : _root_.Go.OpenSpec := { _root_.Go.OpenSpec.ofChange s with cond := some uptoSmall }

/-- 'tallysticklaw10.LedgerCopies', WHERE WHAT IT READS IS OF BULK AT MOST 1048576: true; the input reads as it did. -/
def ledgerCopiesUptoRow : OpenClaim := { program := "ytjahlbmhknicjaagreat", sum := "6fe56afe12d3c1a6c6a6cfe2708e122df714e1a6d9f6e428cebe356e6c76b6b5", func := "tallystick/tallysticklaw10.LedgerCopies", spec := "ledgerCopies", unfollowed := true, recurses := true, plainKeys := false, apart := false, narrowed := true }
def LedgerCopiesUptoSaid : Prop := ledgerCopiesUptoRow.holds Tryz.pinned (OpenSpec.upto ledgerCopiesSpec)

/-- 'tallysticklaw10.LedgerReads', WHERE WHAT IT READS IS OF BULK AT MOST 1048576: true; the input reads as it did. -/
def ledgerReadsUptoRow : OpenClaim := { program := "ytjahlbmhknicjaagreat", sum := "6fe56afe12d3c1a6c6a6cfe2708e122df714e1a6d9f6e428cebe356e6c76b6b5", func := "tallystick/tallysticklaw10.LedgerReads", spec := "ledgerReads", unfollowed := true, recurses := true, plainKeys := false, apart := false, narrowed := true }
def LedgerReadsUptoSaid : Prop := ledgerReadsUptoRow.holds Tryz.pinned (OpenSpec.upto ledgerReadsSpec)

/-- 'tallysticklaw10.LedgerWritten', WHERE WHAT IT READS IS OF BULK AT MOST 1048576: true; the input reads as it did. -/
def ledgerWrittenUptoRow : OpenClaim := { program := "ytjahlbmhknicjaagreat", sum := "6fe56afe12d3c1a6c6a6cfe2708e122df714e1a6d9f6e428cebe356e6c76b6b5", func := "tallystick/tallysticklaw10.LedgerWritten", spec := "ledgerWritten", unfollowed := true, recurses := true, plainKeys := false, apart := false, narrowed := true }
def LedgerWrittenUptoSaid : Prop := ledgerWrittenUptoRow.holds Tryz.pinned (OpenSpec.upto ledgerWrittenSpec)

/-- 'tallysticklaw10.LedgerKeeps', WHERE WHAT IT READS IS OF BULK AT MOST 1048576: true; the input reads as it did. -/
def ledgerKeepsUptoRow : OpenClaim := { program := "ytjahlbmhknicjaagreat", sum := "6fe56afe12d3c1a6c6a6cfe2708e122df714e1a6d9f6e428cebe356e6c76b6b5", func := "tallystick/tallysticklaw10.LedgerKeeps", spec := "ledgerKeeps", unfollowed := true, recurses := true, plainKeys := false, apart := false, narrowed := true }
def LedgerKeepsUptoSaid : Prop := ledgerKeepsUptoRow.holds Tryz.pinned (OpenSpec.upto ledgerKeepsSpec)

end Rows
end Go.Proofs.YtjahlbmhknicjaaGreat
