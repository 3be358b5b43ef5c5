/-
  No cell of these rows narrows 'for every input' (looked for: loops, veiled, ifaces, maps, wideKeys, modest, calm, conditions, laid).
  DERIVED. THE GIVEN ROWS OF THIS SEAT. 4 by the template 'for every input the law returns true; each argument reads behind the call as it read before'; 0 by the template 'total and deterministic' (their statements: YtchdegcfohegfaaTotals.lean).
  GIVEN WITH THE SEED: the statements are not yours to turn. If you find one false, say at which input.
  Laid BY PROGRAM, IN A SANDBOX (cutbox-rows.mjs): the forced cells as the released guide's own fill.sh prints them over the translation d89b71c4366fe84a… (all of the seat's roots in one cut). By AI agents, Wed Nov 11 2026. No macro, syntax, notation, axiom, sorry.
-/
import Derived.Test.YtchdegcfohegfaaChecked
import GoSem.Claim
import GoSem.ClaimJoined
import GoSem.ClaimMapViews
import Derived.JoinedTies
import Derived.KernelRfl
namespace Go.Proofs.Ytchdegcfohegfaa
/- THE CELL 'sum', in the pinned program and in every row, IS THE sha256 OF THE DUMP (.gsa) THAT YtchdegcfohegfaaProg.lean LOADS. Nothing in Lean hashes anything: it is a label: what it is worth is what the hold of that sum in a sandbox is worth. -/
noncomputable def Try.pinned : Pinned := { name := "ytchdegcfohegfaa", sum := "d89b71c4366fe84a0d40499906062e3ccf6f687a6044ba6b7f640938c07360ed", checked := Try.checked }
namespace Rows
def none {H : Type} : Left H := { results := [], args := [] }

/-- 'laws.FnExactBoxesOf': WHATEVER THE INPUT: true; the input reads as it did. -/
def fnExactBoxesOfSpec : ChangeSpec := { name := "fnExactBoxesOf", fn := fun _ => fun
  | [d1, d2] => { results := [.lit (.bool true)], args := [d1, d2] }
  | _ => none }
def fnExactBoxesOfRow : OpenClaim := { program := "ytchdegcfohegfaa", sum := "d89b71c4366fe84a0d40499906062e3ccf6f687a6044ba6b7f640938c07360ed", func := "loop.example/g01009/laws.FnExactBoxesOf", spec := "fnExactBoxesOf", unfollowed := true, recurses := true, apart := false }
def FnExactBoxesOfSaid : Prop := fnExactBoxesOfRow.holds Try.pinned (OpenSpec.ofChange fnExactBoxesOfSpec)

/-- ITS FALSE NEIGHBOUR: 'it returns false'. Refute it at one input. -/
def fnExactBoxesOfWrong : ChangeSpec := { name := "fnExactBoxesOf", fn := fun _ => fun
  | [d1, d2] => { results := [.lit (.bool false)], args := [d1, d2] }
  | _ => none }
def FnExactBoxesOfWrongFalsely : Prop := fnExactBoxesOfRow.holds Try.pinned (OpenSpec.ofChange fnExactBoxesOfWrong)

/-- 'laws.FnExactBoxesOfKind': WHATEVER THE INPUT: true; the input reads as it did. -/
def fnExactBoxesOfKindSpec : ChangeSpec := { name := "fnExactBoxesOfKind", fn := fun _ => fun
  | [d1, d2, d3] => { results := [.lit (.bool true)], args := [d1, d2, d3] }
  | _ => none }
def fnExactBoxesOfKindRow : OpenClaim := { program := "ytchdegcfohegfaa", sum := "d89b71c4366fe84a0d40499906062e3ccf6f687a6044ba6b7f640938c07360ed", func := "loop.example/g01009/laws.FnExactBoxesOfKind", spec := "fnExactBoxesOfKind", unfollowed := true, recurses := true, apart := false }
def FnExactBoxesOfKindSaid : Prop := fnExactBoxesOfKindRow.holds Try.pinned (OpenSpec.ofChange fnExactBoxesOfKindSpec)

/-- ITS FALSE NEIGHBOUR: 'it returns false'. Refute it at one input. -/
def fnExactBoxesOfKindWrong : ChangeSpec := { name := "fnExactBoxesOfKind", fn := fun _ => fun
  | [d1, d2, d3] => { results := [.lit (.bool false)], args := [d1, d2, d3] }
  | _ => none }
def FnExactBoxesOfKindWrongFalsely : Prop := fnExactBoxesOfKindRow.holds Try.pinned (OpenSpec.ofChange fnExactBoxesOfKindWrong)

/-- 'laws.FnExactLargestOpen': WHATEVER THE INPUT: true; the input reads as it did. -/
def fnExactLargestOpenSpec : ChangeSpec := { name := "fnExactLargestOpen", fn := fun _ => fun
  | [d1, d2] => { results := [.lit (.bool true)], args := [d1, d2] }
  | _ => none }
def fnExactLargestOpenRow : OpenClaim := { program := "ytchdegcfohegfaa", sum := "d89b71c4366fe84a0d40499906062e3ccf6f687a6044ba6b7f640938c07360ed", func := "loop.example/g01009/laws.FnExactLargestOpen", spec := "fnExactLargestOpen", unfollowed := true, recurses := true, apart := false }
def FnExactLargestOpenSaid : Prop := fnExactLargestOpenRow.holds Try.pinned (OpenSpec.ofChange fnExactLargestOpenSpec)

/-- ITS FALSE NEIGHBOUR: 'it returns false'. Refute it at one input. -/
def fnExactLargestOpenWrong : ChangeSpec := { name := "fnExactLargestOpen", fn := fun _ => fun
  | [d1, d2] => { results := [.lit (.bool false)], args := [d1, d2] }
  | _ => none }
def FnExactLargestOpenWrongFalsely : Prop := fnExactLargestOpenRow.holds Try.pinned (OpenSpec.ofChange fnExactLargestOpenWrong)

/-- 'laws.FnExactTouchingHolds': WHATEVER THE INPUT: true; the input reads as it did. -/
def fnExactTouchingHoldsSpec : ChangeSpec := { name := "fnExactTouchingHolds", fn := fun _ => fun
  | [d1, d2] => { results := [.lit (.bool true)], args := [d1, d2] }
  | _ => none }
def fnExactTouchingHoldsRow : OpenClaim := { program := "ytchdegcfohegfaa", sum := "d89b71c4366fe84a0d40499906062e3ccf6f687a6044ba6b7f640938c07360ed", func := "loop.example/g01009/laws.FnExactTouchingHolds", spec := "fnExactTouchingHolds", unfollowed := true, recurses := true, apart := false }
def FnExactTouchingHoldsSaid : Prop := fnExactTouchingHoldsRow.holds Try.pinned (OpenSpec.ofChange fnExactTouchingHoldsSpec)

/-- ITS FALSE NEIGHBOUR: 'it returns false'. Refute it at one input. -/
def fnExactTouchingHoldsWrong : ChangeSpec := { name := "fnExactTouchingHolds", fn := fun _ => fun
  | [d1, d2] => { results := [.lit (.bool false)], args := [d1, d2] }
  | _ => none }
def FnExactTouchingHoldsWrongFalsely : Prop := fnExactTouchingHoldsRow.holds Try.pinned (OpenSpec.ofChange fnExactTouchingHoldsWrong)

/- THE SECOND FORM. 'bulk': how many values and letters a reading holds, each counted each time it is reached (what is shared counts as often as it is met; a slice's spare places count too). A statement '..UptoSaid' is the law's where the arguments, and the package variables that the reading takes, are together of bulk at most 1048576: NARROWER than '..Said'. Prove '..Said' where nothing that the law and all that it calls make is longer than what came in: it says more and counts as full. Else prove '..UptoSaid'. A law counts once. -/
mutual
def uptoBulk {H : Type} : DataW H → Nat
  | .lit (.string bytes) => bytes.length + 1
  | .lit _ => 1
  | .nil => 1
  | .ptr d => uptoBulk d + 1
  | .slice elems spare => uptoBulkAll elems + uptoBulkAll spare + 1
  | .agg parts => uptoBulkAll parts + 1
  | .iface _ d => uptoBulk d + 1
  | .map entries => uptoBulkEntries entries + 1
  | .held _ => 1
def uptoBulkAll {H : Type} : List (DataW H) → Nat
  | [] => 0
  | d :: r => uptoBulk d + uptoBulkAll r
def uptoBulkEntries {H : Type} : List (Lit × DataW H) → Nat
  | [] => 0
  | x :: r => uptoBulkEntry x + uptoBulkEntries r
def uptoBulkEntry {H : Type} : Lit × DataW H → Nat
  | (.string bytes, d) => bytes.length + uptoBulk d + 1
  | (_, d) => uptoBulk d + 1
 end
def uptoSmall : (H : Type) → List (DataW H) → Bool := fun _ ds => decide (uptoBulkAll ds ≤ 1048576)
def OpenSpec.upto (s : _root_.Go.ChangeSpec) : _root_.Go.OpenSpec := { _root_.Go.OpenSpec.ofChange s with cond := some uptoSmall }

/-- 'laws.FnExactBoxesOf', WHERE WHAT IT READS IS OF BULK AT MOST 1048576: true; the input reads as it did. -/
def fnExactBoxesOfUptoRow : OpenClaim := { program := "ytchdegcfohegfaa", sum := "d89b71c4366fe84a0d40499906062e3ccf6f687a6044ba6b7f640938c07360ed", func := "loop.example/g01009/laws.FnExactBoxesOf", spec := "fnExactBoxesOf", unfollowed := true, recurses := true, apart := false, narrowed := true }
def FnExactBoxesOfUptoSaid : Prop := fnExactBoxesOfUptoRow.holds Try.pinned (OpenSpec.upto fnExactBoxesOfSpec)

/-- 'laws.FnExactBoxesOfKind', WHERE WHAT IT READS IS OF BULK AT MOST 1048576: true; the input reads as it did. -/
def fnExactBoxesOfKindUptoRow : OpenClaim := { program := "ytchdegcfohegfaa", sum := "d89b71c4366fe84a0d40499906062e3ccf6f687a6044ba6b7f640938c07360ed", func := "loop.example/g01009/laws.FnExactBoxesOfKind", spec := "fnExactBoxesOfKind", unfollowed := true, recurses := true, apart := false, narrowed := true }
def FnExactBoxesOfKindUptoSaid : Prop := fnExactBoxesOfKindUptoRow.holds Try.pinned (OpenSpec.upto fnExactBoxesOfKindSpec)

/-- 'laws.FnExactLargestOpen', WHERE WHAT IT READS IS OF BULK AT MOST 1048576: true; the input reads as it did. -/
def fnExactLargestOpenUptoRow : OpenClaim := { program := "ytchdegcfohegfaa", sum := "d89b71c4366fe84a0d40499906062e3ccf6f687a6044ba6b7f640938c07360ed", func := "loop.example/g01009/laws.FnExactLargestOpen", spec := "fnExactLargestOpen", unfollowed := true, recurses := true, apart := false, narrowed := true }
def FnExactLargestOpenUptoSaid : Prop := fnExactLargestOpenUptoRow.holds Try.pinned (OpenSpec.upto fnExactLargestOpenSpec)

/-- 'laws.FnExactTouchingHolds', WHERE WHAT IT READS IS OF BULK AT MOST 1048576: true; the input reads as it did. -/
def fnExactTouchingHoldsUptoRow : OpenClaim := { program := "ytchdegcfohegfaa", sum := "d89b71c4366fe84a0d40499906062e3ccf6f687a6044ba6b7f640938c07360ed", func := "loop.example/g01009/laws.FnExactTouchingHolds", spec := "fnExactTouchingHolds", unfollowed := true, recurses := true, apart := false, narrowed := true }
def FnExactTouchingHoldsUptoSaid : Prop := fnExactTouchingHoldsUptoRow.holds Try.pinned (OpenSpec.upto fnExactTouchingHoldsSpec)

end Rows
end Go.Proofs.Ytchdegcfohegfaa
