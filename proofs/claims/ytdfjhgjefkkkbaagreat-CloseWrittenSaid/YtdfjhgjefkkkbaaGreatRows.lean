/-
  No cell of these rows narrows 'for every input' (looked for: loops, veiled, ifaces, maps, wideKeys, modest, calm, conditions, laid).
  DERIVED. THE GIVEN ROWS OF THIS SEAT. 6 by the template 'for every input the law returns true; each argument reads behind the call as it read before'; 0 by the template 'total and deterministic' (their statements: YtdfjhgjefkkkbaaGreatTotals.lean).
  GIVEN WITH THE SEED: the statements are not yours to turn. If you find one false, say at which input.
  Laid BY PROGRAM, IN A SANDBOX (cutbox-rows.mjs): the forced cells as the released guide's own fill.sh prints them over the translation ac44515fb805c012… (all of the seat's roots in one cut). By AI agents, Wed Nov 11 2026. No macro, syntax, notation, axiom, sorry.
-/
import Derived.Test.YtdfjhgjefkkkbaaGreatChecked
import GoSem.Claim
import GoSem.ClaimJoined
import GoSem.ClaimMapViews
import Derived.JoinedTies
import Derived.KernelRfl
namespace Go.Proofs.YtdfjhgjefkkkbaaGreat
/- THE CELL 'sum', in the pinned program and in every row, IS THE sha256 OF THE DUMP (.gsa) THAT YtdfjhgjefkkkbaaGreatProg.lean LOADS. Nothing in Lean hashes anything: it is a label: what it is worth is what the hold of that sum in a sandbox is worth. -/
noncomputable def Tryz.pinned : Pinned := { name := "ytdfjhgjefkkkbaagreat", sum := "ac44515fb805c01236ff14f77d7f9deee05a0a9c8208e23f8b8cd4a2cf2c127b", checked := Tryz.checked }
namespace Rows
def none {H : Type} : Left H := { results := [], args := [] }

/-- 'tallysticklaw15.CloseMeets': WHATEVER THE INPUT: true; the input reads as it did. -/
def closeMeetsSpec : ChangeSpec := { name := "closeMeets", fn := fun _ => fun
  | [d1, d2, d3, d4, d5, d6, d7] => { results := [.lit (.bool true)], args := [d1, d2, d3, d4, d5, d6, d7] }
  | _ => none }
def closeMeetsRow : OpenClaim := { program := "ytdfjhgjefkkkbaagreat", sum := "ac44515fb805c01236ff14f77d7f9deee05a0a9c8208e23f8b8cd4a2cf2c127b", func := "tallystick/tallysticklaw15.CloseMeets", spec := "closeMeets", inPlace := ["internal/bytealg.Compare"], unfollowed := true, recurses := true, apart := false }
def CloseMeetsSaid : Prop := closeMeetsRow.holds Tryz.pinned (OpenSpec.ofChange closeMeetsSpec)

/-- ITS FALSE NEIGHBOUR: 'it returns false'. Refute it at one input. -/
def closeMeetsWrong : ChangeSpec := { name := "closeMeets", fn := fun _ => fun
  | [d1, d2, d3, d4, d5, d6, d7] => { results := [.lit (.bool false)], args := [d1, d2, d3, d4, d5, d6, d7] }
  | _ => none }
def CloseMeetsWrongFalsely : Prop := closeMeetsRow.holds Tryz.pinned (OpenSpec.ofChange closeMeetsWrong)

/-- 'tallysticklaw15.ClosePlays': WHATEVER THE INPUT: true; the input reads as it did. -/
def closePlaysSpec : ChangeSpec := { name := "closePlays", fn := fun _ => fun
  | [d1, d2, d3, d4, d5, d6, d7] => { results := [.lit (.bool true)], args := [d1, d2, d3, d4, d5, d6, d7] }
  | _ => none }
def closePlaysRow : OpenClaim := { program := "ytdfjhgjefkkkbaagreat", sum := "ac44515fb805c01236ff14f77d7f9deee05a0a9c8208e23f8b8cd4a2cf2c127b", func := "tallystick/tallysticklaw15.ClosePlays", spec := "closePlays", inPlace := ["internal/bytealg.Compare"], unfollowed := true, recurses := true, apart := false }
def ClosePlaysSaid : Prop := closePlaysRow.holds Tryz.pinned (OpenSpec.ofChange closePlaysSpec)

/-- ITS FALSE NEIGHBOUR: 'it returns false'. Refute it at one input. -/
def closePlaysWrong : ChangeSpec := { name := "closePlays", fn := fun _ => fun
  | [d1, d2, d3, d4, d5, d6, d7] => { results := [.lit (.bool false)], args := [d1, d2, d3, d4, d5, d6, d7] }
  | _ => none }
def ClosePlaysWrongFalsely : Prop := closePlaysRow.holds Tryz.pinned (OpenSpec.ofChange closePlaysWrong)

/-- 'tallysticklaw15.CloseBytes': WHATEVER THE INPUT: true; the input reads as it did. -/
def closeBytesSpec : ChangeSpec := { name := "closeBytes", fn := fun _ => fun
  | [d] => { results := [.lit (.bool true)], args := [d] }
  | _ => none }
def closeBytesRow : OpenClaim := { program := "ytdfjhgjefkkkbaagreat", sum := "ac44515fb805c01236ff14f77d7f9deee05a0a9c8208e23f8b8cd4a2cf2c127b", func := "tallystick/tallysticklaw15.CloseBytes", spec := "closeBytes", inPlace := ["internal/bytealg.Compare"], unfollowed := true, recurses := true, apart := false }
def CloseBytesSaid : Prop := closeBytesRow.holds Tryz.pinned (OpenSpec.ofChange closeBytesSpec)

/-- ITS FALSE NEIGHBOUR: 'it returns false'. Refute it at one input. -/
def closeBytesWrong : ChangeSpec := { name := "closeBytes", fn := fun _ => fun
  | [d] => { results := [.lit (.bool false)], args := [d] }
  | _ => none }
def CloseBytesWrongFalsely : Prop := closeBytesRow.holds Tryz.pinned (OpenSpec.ofChange closeBytesWrong)

/-- 'tallysticklaw15.CloseReads': WHATEVER THE INPUT: true; the input reads as it did. -/
def closeReadsSpec : ChangeSpec := { name := "closeReads", fn := fun _ => fun
  | [d] => { results := [.lit (.bool true)], args := [d] }
  | _ => none }
def closeReadsRow : OpenClaim := { program := "ytdfjhgjefkkkbaagreat", sum := "ac44515fb805c01236ff14f77d7f9deee05a0a9c8208e23f8b8cd4a2cf2c127b", func := "tallystick/tallysticklaw15.CloseReads", spec := "closeReads", inPlace := ["internal/bytealg.Compare"], unfollowed := true, recurses := true, apart := false }
def CloseReadsSaid : Prop := closeReadsRow.holds Tryz.pinned (OpenSpec.ofChange closeReadsSpec)

/-- ITS FALSE NEIGHBOUR: 'it returns false'. Refute it at one input. -/
def closeReadsWrong : ChangeSpec := { name := "closeReads", fn := fun _ => fun
  | [d] => { results := [.lit (.bool false)], args := [d] }
  | _ => none }
def CloseReadsWrongFalsely : Prop := closeReadsRow.holds Tryz.pinned (OpenSpec.ofChange closeReadsWrong)

/-- 'tallysticklaw15.CloseWritten': WHATEVER THE INPUT: true; the input reads as it did. -/
def closeWrittenSpec : ChangeSpec := { name := "closeWritten", fn := fun _ => fun
  | [d1, d2] => { results := [.lit (.bool true)], args := [d1, d2] }
  | _ => none }
def closeWrittenRow : OpenClaim := { program := "ytdfjhgjefkkkbaagreat", sum := "ac44515fb805c01236ff14f77d7f9deee05a0a9c8208e23f8b8cd4a2cf2c127b", func := "tallystick/tallysticklaw15.CloseWritten", spec := "closeWritten", inPlace := ["internal/bytealg.Compare"], unfollowed := true, recurses := true, apart := false }
def CloseWrittenSaid : Prop := closeWrittenRow.holds Tryz.pinned (OpenSpec.ofChange closeWrittenSpec)

/-- ITS FALSE NEIGHBOUR: 'it returns false'. Refute it at one input. -/
def closeWrittenWrong : ChangeSpec := { name := "closeWritten", fn := fun _ => fun
  | [d1, d2] => { results := [.lit (.bool false)], args := [d1, d2] }
  | _ => none }
def CloseWrittenWrongFalsely : Prop := closeWrittenRow.holds Tryz.pinned (OpenSpec.ofChange closeWrittenWrong)

/-- 'tallysticklaw15.CloseCopies': WHATEVER THE INPUT: true; the input reads as it did. -/
def closeCopiesSpec : ChangeSpec := { name := "closeCopies", fn := fun _ => fun
  | [d1, d2, d3, d4, d5, d6] => { results := [.lit (.bool true)], args := [d1, d2, d3, d4, d5, d6] }
  | _ => none }
def closeCopiesRow : OpenClaim := { program := "ytdfjhgjefkkkbaagreat", sum := "ac44515fb805c01236ff14f77d7f9deee05a0a9c8208e23f8b8cd4a2cf2c127b", func := "tallystick/tallysticklaw15.CloseCopies", spec := "closeCopies", inPlace := ["internal/bytealg.Compare"], unfollowed := true, recurses := true, apart := false }
def CloseCopiesSaid : Prop := closeCopiesRow.holds Tryz.pinned (OpenSpec.ofChange closeCopiesSpec)

/-- ITS FALSE NEIGHBOUR: 'it returns false'. Refute it at one input. -/
def closeCopiesWrong : ChangeSpec := { name := "closeCopies", fn := fun _ => fun
  | [d1, d2, d3, d4, d5, d6] => { results := [.lit (.bool false)], args := [d1, d2, d3, d4, d5, d6] }
  | _ => none }
def CloseCopiesWrongFalsely : Prop := closeCopiesRow.holds Tryz.pinned (OpenSpec.ofChange closeCopiesWrong)

/- THE SECOND FORM. 'bulk': how many values and letters a reading holds, each counted each time it is reached (what is shared counts as often as it is met; a slice's spare places count too). A statement '..UptoSaid' is the law's where the arguments, and the package variables that the reading takes, are together of bulk at most 1048576: NARROWER than '..Said'. Prove '..Said' where nothing that the law and all that it calls make is longer than what came in: it says more and counts as full. Else prove '..UptoSaid'. A law counts once. -/
mutual
def uptoBulk {H : Type} : DataW H → Nat
  | .lit (.string bytes) => bytes.length + 1
  | .lit _ => 1
  | .nil => 1
  | .ptr d => uptoBulk d + 1
  | .slice elems spare => uptoBulkAll elems + uptoBulkAll spare + 1
  | .agg parts => uptoBulkAll parts + 1
  | .iface _ d => uptoBulk d + 1
  | .map entries => uptoBulkEntries entries + 1
  | .held _ => 1
def uptoBulkAll {H : Type} : List (DataW H) → Nat
  | [] => 0
  | d :: r => uptoBulk d + uptoBulkAll r
def uptoBulkEntries {H : Type} : List (Lit × DataW H) → Nat
  | [] => 0
  | x :: r => uptoBulkEntry x + uptoBulkEntries r
def uptoBulkEntry {H : Type} : Lit × DataW H → Nat
  | (.string bytes, d) => bytes.length + uptoBulk d + 1
  | (_, d) => uptoBulk d + 1
 end
def uptoSmall : (H : Type) → List (DataW H) → Bool := fun _ ds => decide (uptoBulkAll ds ≤ 1048576)
def OpenSpec.upto (s : _root_.Go.ChangeSpec) : _root_.Go.OpenSpec := { _root_.Go.OpenSpec.ofChange s with cond := some uptoSmall }

/-- 'tallysticklaw15.CloseMeets', WHERE WHAT IT READS IS OF BULK AT MOST 1048576: true; the input reads as it did. -/
def closeMeetsUptoRow : OpenClaim := { program := "ytdfjhgjefkkkbaagreat", sum := "ac44515fb805c01236ff14f77d7f9deee05a0a9c8208e23f8b8cd4a2cf2c127b", func := "tallystick/tallysticklaw15.CloseMeets", spec := "closeMeets", inPlace := ["internal/bytealg.Compare"], unfollowed := true, recurses := true, apart := false, narrowed := true }
def CloseMeetsUptoSaid : Prop := closeMeetsUptoRow.holds Tryz.pinned (OpenSpec.upto closeMeetsSpec)

/-- 'tallysticklaw15.ClosePlays', WHERE WHAT IT READS IS OF BULK AT MOST 1048576: true; the input reads as it did. -/
def closePlaysUptoRow : OpenClaim := { program := "ytdfjhgjefkkkbaagreat", sum := "ac44515fb805c01236ff14f77d7f9deee05a0a9c8208e23f8b8cd4a2cf2c127b", func := "tallystick/tallysticklaw15.ClosePlays", spec := "closePlays", inPlace := ["internal/bytealg.Compare"], unfollowed := true, recurses := true, apart := false, narrowed := true }
def ClosePlaysUptoSaid : Prop := closePlaysUptoRow.holds Tryz.pinned (OpenSpec.upto closePlaysSpec)

/-- 'tallysticklaw15.CloseBytes', WHERE WHAT IT READS IS OF BULK AT MOST 1048576: true; the input reads as it did. -/
def closeBytesUptoRow : OpenClaim := { program := "ytdfjhgjefkkkbaagreat", sum := "ac44515fb805c01236ff14f77d7f9deee05a0a9c8208e23f8b8cd4a2cf2c127b", func := "tallystick/tallysticklaw15.CloseBytes", spec := "closeBytes", inPlace := ["internal/bytealg.Compare"], unfollowed := true, recurses := true, apart := false, narrowed := true }
def CloseBytesUptoSaid : Prop := closeBytesUptoRow.holds Tryz.pinned (OpenSpec.upto closeBytesSpec)

/-- 'tallysticklaw15.CloseReads', WHERE WHAT IT READS IS OF BULK AT MOST 1048576: true; the input reads as it did. -/
def closeReadsUptoRow : OpenClaim := { program := "ytdfjhgjefkkkbaagreat", sum := "ac44515fb805c01236ff14f77d7f9deee05a0a9c8208e23f8b8cd4a2cf2c127b", func := "tallystick/tallysticklaw15.CloseReads", spec := "closeReads", inPlace := ["internal/bytealg.Compare"], unfollowed := true, recurses := true, apart := false, narrowed := true }
def CloseReadsUptoSaid : Prop := closeReadsUptoRow.holds Tryz.pinned (OpenSpec.upto closeReadsSpec)

/-- 'tallysticklaw15.CloseWritten', WHERE WHAT IT READS IS OF BULK AT MOST 1048576: true; the input reads as it did. -/
def closeWrittenUptoRow : OpenClaim := { program := "ytdfjhgjefkkkbaagreat", sum := "ac44515fb805c01236ff14f77d7f9deee05a0a9c8208e23f8b8cd4a2cf2c127b", func := "tallystick/tallysticklaw15.CloseWritten", spec := "closeWritten", inPlace := ["internal/bytealg.Compare"], unfollowed := true, recurses := true, apart := false, narrowed := true }
def CloseWrittenUptoSaid : Prop := closeWrittenUptoRow.holds Tryz.pinned (OpenSpec.upto closeWrittenSpec)

/-- 'tallysticklaw15.CloseCopies', WHERE WHAT IT READS IS OF BULK AT MOST 1048576: true; the input reads as it did. -/
def closeCopiesUptoRow : OpenClaim := { program := "ytdfjhgjefkkkbaagreat", sum := "ac44515fb805c01236ff14f77d7f9deee05a0a9c8208e23f8b8cd4a2cf2c127b", func := "tallystick/tallysticklaw15.CloseCopies", spec := "closeCopies", inPlace := ["internal/bytealg.Compare"], unfollowed := true, recurses := true, apart := false, narrowed := true }
def CloseCopiesUptoSaid : Prop := closeCopiesUptoRow.holds Tryz.pinned (OpenSpec.upto closeCopiesSpec)

end Rows
end Go.Proofs.YtdfjhgjefkkkbaaGreat
