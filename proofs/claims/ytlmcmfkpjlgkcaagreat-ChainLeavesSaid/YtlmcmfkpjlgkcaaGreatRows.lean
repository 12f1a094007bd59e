/-
  No cell of these rows narrows 'for every input' (looked for: loops, veiled, ifaces, maps, wideKeys, modest, calm, conditions, laid).
  DERIVED. THE GIVEN ROWS OF THIS SEAT. 2 by the template 'for every input the law returns true; each argument reads behind the call as it read before'; 0 by the template 'total and deterministic' (their statements: YtlmcmfkpjlgkcaaGreatTotals.lean).
  GIVEN WITH THE SEED: the statements are not yours to turn. If you find one false, say at which input.
  Laid BY PROGRAM, IN A SANDBOX (cutbox-rows.mjs): the forced cells as the released guide's own fill.sh prints them over the translation c18b53ae5b3610c4… (all of the seat's roots in one cut). By AI agents, Wed Nov 11 2026. No macro, syntax, notation, axiom, sorry.
-/
import Derived.Test.YtlmcmfkpjlgkcaaGreatChecked
import GoSem.Claim
import GoSem.ClaimJoined
import GoSem.ClaimMapViews
import Derived.JoinedTies
import Derived.KernelRfl
namespace Go.Proofs.YtlmcmfkpjlgkcaaGreat
/- THE CELL 'sum', in the pinned program and in every row, IS THE sha256 OF THE DUMP (.gsa) THAT YtlmcmfkpjlgkcaaGreatProg.lean LOADS. Nothing in Lean hashes anything: it is a label: what it is worth is what the hold of that sum in a sandbox is worth. -/
noncomputable def Tryz.pinned : Pinned := { name := "ytlmcmfkpjlgkcaagreat", sum := "c18b53ae5b3610c43884061db8d1233c2d8063df0d1fcce386b02e7d27b6ae34", checked := Tryz.checked }
namespace Rows
def none {H : Type} : Left H := { results := [], args := [] }

/-- 'tallysticklaw16.ChainLeaves': WHATEVER THE INPUT: true; the input reads as it did. -/
def chainLeavesSpec : ChangeSpec := { name := "chainLeaves", fn := fun _ => fun
  | [d1, d2, d3, d4] => { results := [.lit (.bool true)], args := [d1, d2, d3, d4] }
  | _ => none }
def chainLeavesRow : OpenClaim := { program := "ytlmcmfkpjlgkcaagreat", sum := "c18b53ae5b3610c43884061db8d1233c2d8063df0d1fcce386b02e7d27b6ae34", func := "tallystick/tallysticklaw16.ChainLeaves", spec := "chainLeaves", inPlace := ["internal/bytealg.Compare"], unfollowed := true, recurses := true, plainKeys := false, apart := false }
def ChainLeavesSaid : Prop := chainLeavesRow.holds Tryz.pinned (OpenSpec.ofChange chainLeavesSpec)

/-- ITS FALSE NEIGHBOUR: 'it returns false'. Refute it at one input. -/
def chainLeavesWrong : ChangeSpec := { name := "chainLeaves", fn := fun _ => fun
  | [d1, d2, d3, d4] => { results := [.lit (.bool false)], args := [d1, d2, d3, d4] }
  | _ => none }
def ChainLeavesWrongFalsely : Prop := chainLeavesRow.holds Tryz.pinned (OpenSpec.ofChange chainLeavesWrong)

/-- 'tallysticklaw16.ChainNews': WHATEVER THE INPUT: true; the input reads as it did. -/
def chainNewsSpec : ChangeSpec := { name := "chainNews", fn := fun _ => fun
  | [d1, d2] => { results := [.lit (.bool true)], args := [d1, d2] }
  | _ => none }
def chainNewsRow : OpenClaim := { program := "ytlmcmfkpjlgkcaagreat", sum := "c18b53ae5b3610c43884061db8d1233c2d8063df0d1fcce386b02e7d27b6ae34", func := "tallystick/tallysticklaw16.ChainNews", spec := "chainNews", inPlace := ["internal/bytealg.Compare", "maps.clone"], unfollowed := true, recurses := true, plainKeys := false, apart := false }
def ChainNewsSaid : Prop := chainNewsRow.holds Tryz.pinned (OpenSpec.ofChange chainNewsSpec)

/-- ITS FALSE NEIGHBOUR: 'it returns false'. Refute it at one input. -/
def chainNewsWrong : ChangeSpec := { name := "chainNews", fn := fun _ => fun
  | [d1, d2] => { results := [.lit (.bool false)], args := [d1, d2] }
  | _ => none }
def ChainNewsWrongFalsely : Prop := chainNewsRow.holds Tryz.pinned (OpenSpec.ofChange chainNewsWrong)

/- THE SECOND FORM. 'bulk': how many values and letters a reading holds, each counted each time it is reached (what is shared counts as often as it is met; a slice's spare places count too). A statement '..UptoSaid' is the law's where the arguments, and the package variables that the reading takes, are together of bulk at most 1048576: NARROWER than '..Said'. Prove '..Said' where nothing that the law and all that it calls make is longer than what came in: it says more and counts as full. Else prove '..UptoSaid'. A law counts once. -/
mutual
def uptoBulk {H : Type} : DataW H → Nat
  | .lit (.string bytes) => bytes.length + 1
  | .lit _ => 1
  | .nil => 1
  | .ptr d => uptoBulk d + 1
  | .slice elems spare => uptoBulkAll elems + uptoBulkAll spare + 1
  | .agg parts => uptoBulkAll parts + 1
  | .iface _ d => uptoBulk d + 1
  | .map entries => uptoBulkEntries entries + 1
  | .held _ => 1
def uptoBulkAll {H : Type} : List (DataW H) → Nat
  | [] => 0
  | d :: r => uptoBulk d + uptoBulkAll r
def uptoBulkEntries {H : Type} : List (Lit × DataW H) → Nat
  | [] => 0
  | x :: r => uptoBulkEntry x + uptoBulkEntries r
def uptoBulkEntry {H : Type} : Lit × DataW H → Nat
  | (.string bytes, d) => bytes.length + uptoBulk d + 1
  | (_, d) => uptoBulk d + 1
 end
def uptoSmall : (H : Type) → List (DataW H) → Bool := fun _ ds => decide (uptoBulkAll ds ≤ 1048576)
def OpenSpec.upto (s : _root_.Go.ChangeSpec) : _root_.Go.OpenSpec := { _root_.Go.OpenSpec.ofChange s with cond := some uptoSmall }

/-- 'tallysticklaw16.ChainLeaves', WHERE WHAT IT READS IS OF BULK AT MOST 1048576: true; the input reads as it did. -/
def chainLeavesUptoRow : OpenClaim := { program := "ytlmcmfkpjlgkcaagreat", sum := "c18b53ae5b3610c43884061db8d1233c2d8063df0d1fcce386b02e7d27b6ae34", func := "tallystick/tallysticklaw16.ChainLeaves", spec := "chainLeaves", inPlace := ["internal/bytealg.Compare"], unfollowed := true, recurses := true, plainKeys := false, apart := false, narrowed := true }
def ChainLeavesUptoSaid : Prop := chainLeavesUptoRow.holds Tryz.pinned (OpenSpec.upto chainLeavesSpec)

/-- 'tallysticklaw16.ChainNews', WHERE WHAT IT READS IS OF BULK AT MOST 1048576: true; the input reads as it did. -/
def chainNewsUptoRow : OpenClaim := { program := "ytlmcmfkpjlgkcaagreat", sum := "c18b53ae5b3610c43884061db8d1233c2d8063df0d1fcce386b02e7d27b6ae34", func := "tallystick/tallysticklaw16.ChainNews", spec := "chainNews", inPlace := ["internal/bytealg.Compare", "maps.clone"], unfollowed := true, recurses := true, plainKeys := false, apart := false, narrowed := true }
def ChainNewsUptoSaid : Prop := chainNewsUptoRow.holds Tryz.pinned (OpenSpec.upto chainNewsSpec)

end Rows
end Go.Proofs.YtlmcmfkpjlgkcaaGreat
