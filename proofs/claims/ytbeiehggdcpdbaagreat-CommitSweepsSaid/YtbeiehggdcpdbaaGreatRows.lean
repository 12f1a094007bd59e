/-
  No cell of these rows narrows 'for every input' (looked for: loops, veiled, ifaces, maps, wideKeys, modest, calm, conditions, laid).
  DERIVED. THE GIVEN ROWS OF THIS SEAT. 4 by the template 'for every input the law returns true; each argument reads behind the call as it read before'; 0 by the template 'total and deterministic' (their statements: YtbeiehggdcpdbaaGreatTotals.lean).
  GIVEN WITH THE SEED: the statements are not yours to turn. If you find one false, say at which input.
  Laid BY PROGRAM, IN A SANDBOX (cutbox-rows.mjs): the forced cells as the released guide's own fill.sh prints them over the translation 0b6aa8735947745a… (all of the seat's roots in one cut). By AI agents, Wed Nov 11 2026. No macro, syntax, notation, axiom, sorry.
-/
import Derived.Test.YtbeiehggdcpdbaaGreatChecked
import GoSem.Claim
import GoSem.ClaimJoined
import GoSem.ClaimMapViews
import Derived.JoinedTies
import Derived.KernelRfl
namespace Go.Proofs.YtbeiehggdcpdbaaGreat
/- THE CELL 'sum', in the pinned program and in every row, IS THE sha256 OF THE DUMP (.gsa) THAT YtbeiehggdcpdbaaGreatProg.lean LOADS. Nothing in Lean hashes anything: it is a label: what it is worth is what the hold of that sum in a sandbox is worth. -/
noncomputable def Tryz.pinned : Pinned := { name := "ytbeiehggdcpdbaagreat", sum := "0b6aa8735947745a4f81dfc1c4219a6a96c45193a82f459e05e463a78212a38f", checked := Tryz.checked }
namespace Rows
def none {H : Type} : Left H := { results := [], args := [] }

/-- 'tallysticklaw08.CommitMakes': WHATEVER THE INPUT: true; the input reads as it did. -/
def commitMakesSpec : ChangeSpec := { name := "commitMakes", fn := fun _ => fun
  | [d1, d2] => { results := [.lit (.bool true)], args := [d1, d2] }
  | _ => none }
def commitMakesRow : OpenClaim := { program := "ytbeiehggdcpdbaagreat", sum := "0b6aa8735947745a4f81dfc1c4219a6a96c45193a82f459e05e463a78212a38f", func := "tallystick/tallysticklaw08.CommitMakes", spec := "commitMakes", inPlace := ["internal/bytealg.Compare"], unfollowed := true, recurses := true, plainKeys := false, apart := false }
def CommitMakesSaid : Prop := commitMakesRow.holds Tryz.pinned (OpenSpec.ofChange commitMakesSpec)

/-- ITS FALSE NEIGHBOUR: 'it returns false'. Refute it at one input. -/
def commitMakesWrong : ChangeSpec := { name := "commitMakes", fn := fun _ => fun
  | [d1, d2] => { results := [.lit (.bool false)], args := [d1, d2] }
  | _ => none }
def CommitMakesWrongFalsely : Prop := commitMakesRow.holds Tryz.pinned (OpenSpec.ofChange commitMakesWrong)

/-- 'tallysticklaw08.CommitSweeps': WHATEVER THE INPUT: true; the input reads as it did. -/
def commitSweepsSpec : ChangeSpec := { name := "commitSweeps", fn := fun _ => fun
  | [d1, d2, d3] => { results := [.lit (.bool true)], args := [d1, d2, d3] }
  | _ => none }
def commitSweepsRow : OpenClaim := { program := "ytbeiehggdcpdbaagreat", sum := "0b6aa8735947745a4f81dfc1c4219a6a96c45193a82f459e05e463a78212a38f", func := "tallystick/tallysticklaw08.CommitSweeps", spec := "commitSweeps", inPlace := ["internal/bytealg.Compare"], unfollowed := true, recurses := true, plainKeys := false, apart := false }
def CommitSweepsSaid : Prop := commitSweepsRow.holds Tryz.pinned (OpenSpec.ofChange commitSweepsSpec)

/-- ITS FALSE NEIGHBOUR: 'it returns false'. Refute it at one input. -/
def commitSweepsWrong : ChangeSpec := { name := "commitSweeps", fn := fun _ => fun
  | [d1, d2, d3] => { results := [.lit (.bool false)], args := [d1, d2, d3] }
  | _ => none }
def CommitSweepsWrongFalsely : Prop := commitSweepsRow.holds Tryz.pinned (OpenSpec.ofChange commitSweepsWrong)

/-- 'tallysticklaw08.CommitTags': WHATEVER THE INPUT: true; the input reads as it did. -/
def commitTagsSpec : ChangeSpec := { name := "commitTags", fn := fun _ => fun
  | [d1, d2, d3] => { results := [.lit (.bool true)], args := [d1, d2, d3] }
  | _ => none }
def commitTagsRow : OpenClaim := { program := "ytbeiehggdcpdbaagreat", sum := "0b6aa8735947745a4f81dfc1c4219a6a96c45193a82f459e05e463a78212a38f", func := "tallystick/tallysticklaw08.CommitTags", spec := "commitTags", inPlace := ["internal/bytealg.Compare"], unfollowed := true, recurses := true, plainKeys := false, apart := false }
def CommitTagsSaid : Prop := commitTagsRow.holds Tryz.pinned (OpenSpec.ofChange commitTagsSpec)

/-- ITS FALSE NEIGHBOUR: 'it returns false'. Refute it at one input. -/
def commitTagsWrong : ChangeSpec := { name := "commitTags", fn := fun _ => fun
  | [d1, d2, d3] => { results := [.lit (.bool false)], args := [d1, d2, d3] }
  | _ => none }
def CommitTagsWrongFalsely : Prop := commitTagsRow.holds Tryz.pinned (OpenSpec.ofChange commitTagsWrong)

/-- 'tallysticklaw08.CommitHolds': WHATEVER THE INPUT: true; the input reads as it did. -/
def commitHoldsSpec : ChangeSpec := { name := "commitHolds", fn := fun _ => fun
  | [d1, d2, d3, d4] => { results := [.lit (.bool true)], args := [d1, d2, d3, d4] }
  | _ => none }
def commitHoldsRow : OpenClaim := { program := "ytbeiehggdcpdbaagreat", sum := "0b6aa8735947745a4f81dfc1c4219a6a96c45193a82f459e05e463a78212a38f", func := "tallystick/tallysticklaw08.CommitHolds", spec := "commitHolds", inPlace := ["internal/bytealg.Compare"], unfollowed := true, recurses := true, plainKeys := false, apart := false }
def CommitHoldsSaid : Prop := commitHoldsRow.holds Tryz.pinned (OpenSpec.ofChange commitHoldsSpec)

/-- ITS FALSE NEIGHBOUR: 'it returns false'. Refute it at one input. -/
def commitHoldsWrong : ChangeSpec := { name := "commitHolds", fn := fun _ => fun
  | [d1, d2, d3, d4] => { results := [.lit (.bool false)], args := [d1, d2, d3, d4] }
  | _ => none }
def CommitHoldsWrongFalsely : Prop := commitHoldsRow.holds Tryz.pinned (OpenSpec.ofChange commitHoldsWrong)

/- THE SECOND FORM. 'bulk': how many values and letters a reading holds, each counted each time it is reached (what is shared counts as often as it is met; a slice's spare places count too). A statement '..UptoSaid' is the law's where the arguments, and the package variables that the reading takes, are together of bulk at most 1048576: NARROWER than '..Said'. Prove '..Said' where nothing that the law and all that it calls make is longer than what came in: it says more and counts as full. Else prove '..UptoSaid'. A law counts once. -/
mutual
def uptoBulk {H : Type} : DataW H → Nat
  | .lit (.string bytes) => bytes.length + 1
  | .lit _ => 1
  | .nil => 1
  | .ptr d => uptoBulk d + 1
  | .slice elems spare => uptoBulkAll elems + uptoBulkAll spare + 1
  | .agg parts => uptoBulkAll parts + 1
  | .iface _ d => uptoBulk d + 1
  | .map entries => uptoBulkEntries entries + 1
  | .held _ => 1
def uptoBulkAll {H : Type} : List (DataW H) → Nat
  | [] => 0
  | d :: r => uptoBulk d + uptoBulkAll r
def uptoBulkEntries {H : Type} : List (Lit × DataW H) → Nat
  | [] => 0
  | x :: r => uptoBulkEntry x + uptoBulkEntries r
def uptoBulkEntry {H : Type} : Lit × DataW H → Nat
  | (.string bytes, d) => bytes.length + uptoBulk d + 1
  | (_, d) => uptoBulk d + 1
 end
def uptoSmall : (H : Type) → List (DataW H) → Bool := fun _ ds => decide (uptoBulkAll ds ≤ 1048576)
def OpenSpec.upto (s : _root_.Go.ChangeSpec) : _root_.Go.OpenSpec := { _root_.Go.OpenSpec.ofChange s with cond := some uptoSmall }

/-- 'tallysticklaw08.CommitMakes', WHERE WHAT IT READS IS OF BULK AT MOST 1048576: true; the input reads as it did. -/
def commitMakesUptoRow : OpenClaim := { program := "ytbeiehggdcpdbaagreat", sum := "0b6aa8735947745a4f81dfc1c4219a6a96c45193a82f459e05e463a78212a38f", func := "tallystick/tallysticklaw08.CommitMakes", spec := "commitMakes", inPlace := ["internal/bytealg.Compare"], unfollowed := true, recurses := true, plainKeys := false, apart := false, narrowed := true }
def CommitMakesUptoSaid : Prop := commitMakesUptoRow.holds Tryz.pinned (OpenSpec.upto commitMakesSpec)

/-- 'tallysticklaw08.CommitSweeps', WHERE WHAT IT READS IS OF BULK AT MOST 1048576: true; the input reads as it did. -/
def commitSweepsUptoRow : OpenClaim := { program := "ytbeiehggdcpdbaagreat", sum := "0b6aa8735947745a4f81dfc1c4219a6a96c45193a82f459e05e463a78212a38f", func := "tallystick/tallysticklaw08.CommitSweeps", spec := "commitSweeps", inPlace := ["internal/bytealg.Compare"], unfollowed := true, recurses := true, plainKeys := false, apart := false, narrowed := true }
def CommitSweepsUptoSaid : Prop := commitSweepsUptoRow.holds Tryz.pinned (OpenSpec.upto commitSweepsSpec)

/-- 'tallysticklaw08.CommitTags', WHERE WHAT IT READS IS OF BULK AT MOST 1048576: true; the input reads as it did. -/
def commitTagsUptoRow : OpenClaim := { program := "ytbeiehggdcpdbaagreat", sum := "0b6aa8735947745a4f81dfc1c4219a6a96c45193a82f459e05e463a78212a38f", func := "tallystick/tallysticklaw08.CommitTags", spec := "commitTags", inPlace := ["internal/bytealg.Compare"], unfollowed := true, recurses := true, plainKeys := false, apart := false, narrowed := true }
def CommitTagsUptoSaid : Prop := commitTagsUptoRow.holds Tryz.pinned (OpenSpec.upto commitTagsSpec)

/-- 'tallysticklaw08.CommitHolds', WHERE WHAT IT READS IS OF BULK AT MOST 1048576: true; the input reads as it did. -/
def commitHoldsUptoRow : OpenClaim := { program := "ytbeiehggdcpdbaagreat", sum := "0b6aa8735947745a4f81dfc1c4219a6a96c45193a82f459e05e463a78212a38f", func := "tallystick/tallysticklaw08.CommitHolds", spec := "commitHolds", inPlace := ["internal/bytealg.Compare"], unfollowed := true, recurses := true, plainKeys := false, apart := false, narrowed := true }
def CommitHoldsUptoSaid : Prop := commitHoldsUptoRow.holds Tryz.pinned (OpenSpec.upto commitHoldsSpec)

end Rows
end Go.Proofs.YtbeiehggdcpdbaaGreat
