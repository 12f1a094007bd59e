/-
  No cell of these rows narrows 'for every input' (looked for: loops, veiled, ifaces, maps, wideKeys, modest, calm, conditions, laid).
  DERIVED. THE GIVEN ROWS OF THIS SEAT. 3 by the template 'for every input the law returns true; each argument reads behind the call as it read before'; 0 by the template 'total and deterministic' (their statements: YthnfcmaoiebelaaGreatTotals.lean).
  GIVEN WITH THE SEED: the statements are not yours to turn. If you find one false, say at which input.
  Laid BY PROGRAM, IN A SANDBOX (cutbox-rows.mjs): the forced cells as the released guide's own fill.sh prints them over the translation ddbc655b4a988d1c… (all of the seat's roots in one cut). By AI agents, Wed Nov 11 2026. No macro, syntax, notation, axiom, sorry.
-/
import Derived.Test.YthnfcmaoiebelaaGreatChecked
import GoSem.Claim
import GoSem.ClaimJoined
import GoSem.ClaimMapViews
import Derived.JoinedTies
import Derived.KernelRfl
namespace Go.Proofs.YthnfcmaoiebelaaGreat
/- THE CELL 'sum', in the pinned program and in every row, IS THE sha256 OF THE DUMP (.gsa) THAT YthnfcmaoiebelaaGreatProg.lean LOADS. Nothing in Lean hashes anything: it is a label: what it is worth is what the hold of that sum in a sandbox is worth. -/
noncomputable def Tryz.pinned : Pinned := { name := "ythnfcmaoiebelaagreat", sum := "ddbc655b4a988d1c610c44d57693b27ada9b1823a28a210aca72dbceaa0dcf83", checked := Tryz.checked }
namespace Rows
def none {H : Type} : Left H := { results := [], args := [] }

/-- 'tallysticklaw26.LinksFull': WHATEVER THE INPUT: true; the input reads as it did. -/
def linksFullSpec : ChangeSpec := { name := "linksFull", fn := fun _ => fun
  | [d1, d2] => { results := [.lit (.bool true)], args := [d1, d2] }
  | _ => none }
def linksFullRow : OpenClaim := { program := "ythnfcmaoiebelaagreat", sum := "ddbc655b4a988d1c610c44d57693b27ada9b1823a28a210aca72dbceaa0dcf83", func := "tallystick/tallysticklaw26.LinksFull", spec := "linksFull", inPlace := ["internal/bytealg.Compare"], unfollowed := true, recurses := true, named := ["math/bits.divideError", "math/bits.overflowError"], plainKeys := false, apart := false }
def LinksFullSaid : Prop := linksFullRow.holds Tryz.pinned (OpenSpec.ofChange linksFullSpec)

/-- ITS FALSE NEIGHBOUR: 'it returns false'. Refute it at one input. -/
def linksFullWrong : ChangeSpec := { name := "linksFull", fn := fun _ => fun
  | [d1, d2] => { results := [.lit (.bool false)], args := [d1, d2] }
  | _ => none }
def LinksFullWrongFalsely : Prop := linksFullRow.holds Tryz.pinned (OpenSpec.ofChange linksFullWrong)

/-- 'tallysticklaw26.LinksLeaves': WHATEVER THE INPUT: true; the input reads as it did. -/
def linksLeavesSpec : ChangeSpec := { name := "linksLeaves", fn := fun _ => fun
  | [d1, d2, d3] => { results := [.lit (.bool true)], args := [d1, d2, d3] }
  | _ => none }
def linksLeavesRow : OpenClaim := { program := "ythnfcmaoiebelaagreat", sum := "ddbc655b4a988d1c610c44d57693b27ada9b1823a28a210aca72dbceaa0dcf83", func := "tallystick/tallysticklaw26.LinksLeaves", spec := "linksLeaves", inPlace := ["internal/bytealg.Compare"], unfollowed := true, recurses := true, named := ["math/bits.divideError", "math/bits.overflowError"], plainKeys := false, apart := false }
def LinksLeavesSaid : Prop := linksLeavesRow.holds Tryz.pinned (OpenSpec.ofChange linksLeavesSpec)

/-- ITS FALSE NEIGHBOUR: 'it returns false'. Refute it at one input. -/
def linksLeavesWrong : ChangeSpec := { name := "linksLeaves", fn := fun _ => fun
  | [d1, d2, d3] => { results := [.lit (.bool false)], args := [d1, d2, d3] }
  | _ => none }
def LinksLeavesWrongFalsely : Prop := linksLeavesRow.holds Tryz.pinned (OpenSpec.ofChange linksLeavesWrong)

/-- 'tallysticklaw26.LinksHolds': WHATEVER THE INPUT: true; the input reads as it did. -/
def linksHoldsSpec : ChangeSpec := { name := "linksHolds", fn := fun _ => fun
  | [d1, d2, d3, d4, d5, d6] => { results := [.lit (.bool true)], args := [d1, d2, d3, d4, d5, d6] }
  | _ => none }
def linksHoldsRow : OpenClaim := { program := "ythnfcmaoiebelaagreat", sum := "ddbc655b4a988d1c610c44d57693b27ada9b1823a28a210aca72dbceaa0dcf83", func := "tallystick/tallysticklaw26.LinksHolds", spec := "linksHolds", inPlace := ["internal/bytealg.Compare"], unfollowed := true, recurses := true, named := ["math/bits.divideError", "math/bits.overflowError"], plainKeys := false, apart := false }
def LinksHoldsSaid : Prop := linksHoldsRow.holds Tryz.pinned (OpenSpec.ofChange linksHoldsSpec)

/-- ITS FALSE NEIGHBOUR: 'it returns false'. Refute it at one input. -/
def linksHoldsWrong : ChangeSpec := { name := "linksHolds", fn := fun _ => fun
  | [d1, d2, d3, d4, d5, d6] => { results := [.lit (.bool false)], args := [d1, d2, d3, d4, d5, d6] }
  | _ => none }
def LinksHoldsWrongFalsely : Prop := linksHoldsRow.holds Tryz.pinned (OpenSpec.ofChange linksHoldsWrong)

/- THE SECOND FORM. 'bulk': how many values and letters a reading holds, each counted each time it is reached (what is shared counts as often as it is met; a slice's spare places count too). A statement '..UptoSaid' is the law's where the arguments, and the package variables that the reading takes, are together of bulk at most 1048576: NARROWER than '..Said'. Prove '..Said' where nothing that the law and all that it calls make is longer than what came in: it says more and counts as full. Else prove '..UptoSaid'. A law counts once. -/
mutual
def uptoBulk {H : Type} : DataW H → Nat
  | .lit (.string bytes) => bytes.length + 1
  | .lit _ => 1
  | .nil => 1
  | .ptr d => uptoBulk d + 1
  | .slice elems spare => uptoBulkAll elems + uptoBulkAll spare + 1
  | .agg parts => uptoBulkAll parts + 1
  | .iface _ d => uptoBulk d + 1
  | .map entries => uptoBulkEntries entries + 1
  | .held _ => 1
def uptoBulkAll {H : Type} : List (DataW H) → Nat
  | [] => 0
  | d :: r => uptoBulk d + uptoBulkAll r
def uptoBulkEntries {H : Type} : List (Lit × DataW H) → Nat
  | [] => 0
  | x :: r => uptoBulkEntry x + uptoBulkEntries r
def uptoBulkEntry {H : Type} : Lit × DataW H → Nat
  | (.string bytes, d) => bytes.length + uptoBulk d + 1
  | (_, d) => uptoBulk d + 1
 end
def uptoSmall : (H : Type) → List (DataW H) → Bool := fun _ ds => decide (uptoBulkAll ds ≤ 1048576)
def OpenSpec.upto (s : _root_.Go.ChangeSpec) : _root_.Go.OpenSpec := { _root_.Go.OpenSpec.ofChange s with cond := some uptoSmall }

/-- 'tallysticklaw26.LinksFull', WHERE WHAT IT READS IS OF BULK AT MOST 1048576: true; the input reads as it did. -/
def linksFullUptoRow : OpenClaim := { program := "ythnfcmaoiebelaagreat", sum := "ddbc655b4a988d1c610c44d57693b27ada9b1823a28a210aca72dbceaa0dcf83", func := "tallystick/tallysticklaw26.LinksFull", spec := "linksFull", inPlace := ["internal/bytealg.Compare"], unfollowed := true, recurses := true, named := ["math/bits.divideError", "math/bits.overflowError"], plainKeys := false, apart := false, narrowed := true }
def LinksFullUptoSaid : Prop := linksFullUptoRow.holds Tryz.pinned (OpenSpec.upto linksFullSpec)

/-- 'tallysticklaw26.LinksLeaves', WHERE WHAT IT READS IS OF BULK AT MOST 1048576: true; the input reads as it did. -/
def linksLeavesUptoRow : OpenClaim := { program := "ythnfcmaoiebelaagreat", sum := "ddbc655b4a988d1c610c44d57693b27ada9b1823a28a210aca72dbceaa0dcf83", func := "tallystick/tallysticklaw26.LinksLeaves", spec := "linksLeaves", inPlace := ["internal/bytealg.Compare"], unfollowed := true, recurses := true, named := ["math/bits.divideError", "math/bits.overflowError"], plainKeys := false, apart := false, narrowed := true }
def LinksLeavesUptoSaid : Prop := linksLeavesUptoRow.holds Tryz.pinned (OpenSpec.upto linksLeavesSpec)

/-- 'tallysticklaw26.LinksHolds', WHERE WHAT IT READS IS OF BULK AT MOST 1048576: true; the input reads as it did. -/
def linksHoldsUptoRow : OpenClaim := { program := "ythnfcmaoiebelaagreat", sum := "ddbc655b4a988d1c610c44d57693b27ada9b1823a28a210aca72dbceaa0dcf83", func := "tallystick/tallysticklaw26.LinksHolds", spec := "linksHolds", inPlace := ["internal/bytealg.Compare"], unfollowed := true, recurses := true, named := ["math/bits.divideError", "math/bits.overflowError"], plainKeys := false, apart := false, narrowed := true }
def LinksHoldsUptoSaid : Prop := linksHoldsUptoRow.holds Tryz.pinned (OpenSpec.upto linksHoldsSpec)

end Rows
end Go.Proofs.YthnfcmaoiebelaaGreat
