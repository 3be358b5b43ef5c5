/-
  No cell of these rows narrows 'for every input' (looked for: loops, veiled, ifaces, maps, wideKeys, modest, calm, conditions, laid).
  DERIVED. THE GIVEN ROWS OF THIS SEAT. 5 by the template 'for every input the law returns true; each argument reads behind the call as it read before'; 0 by the template 'total and deterministic' (their statements: YtkahcjnkmbbplaaTotals.lean).
  GIVEN WITH THE SEED: the statements are not yours to turn. If you find one false, say at which input.
  Laid BY PROGRAM, IN A SANDBOX (cutbox-rows.mjs): the forced cells as the released guide's own fill.sh prints them over the translation 175e3fc9681295e9… (all of the seat's roots in one cut). By AI agents, Wed Nov 11 2026. No macro, syntax, notation, axiom, sorry.
-/
import Derived.Test.YtkahcjnkmbbplaaChecked
import GoSem.Claim
import GoSem.ClaimJoined
import GoSem.ClaimMapViews
import Derived.JoinedTies
import Derived.KernelRfl
namespace Go.Proofs.Ytkahcjnkmbbplaa
/- THE CELL 'sum', in the pinned program and in every row, IS THE sha256 OF THE DUMP (.gsa) THAT YtkahcjnkmbbplaaProg.lean LOADS. Nothing in Lean hashes anything: it is a label: what it is worth is what the hold of that sum in a sandbox is worth. -/
noncomputable def Try.pinned : Pinned := { name := "ytkahcjnkmbbplaa", sum := "175e3fc9681295e94f54cc15957ecc629b01373ca4a522547f81ae8e036afccc", checked := Try.checked }
namespace Rows
def none {H : Type} : Left H := { results := [], args := [] }

/-- 'laws.FnExactLeafAt': WHATEVER THE INPUT: true; the input reads as it did. -/
def fnExactLeafAtSpec : ChangeSpec := { name := "fnExactLeafAt", fn := fun _ => fun
  | [d1, d2, d3] => { results := [.lit (.bool true)], args := [d1, d2, d3] }
  | _ => none }
def fnExactLeafAtRow : OpenClaim := { program := "ytkahcjnkmbbplaa", sum := "175e3fc9681295e94f54cc15957ecc629b01373ca4a522547f81ae8e036afccc", func := "loop.example/g01009/laws.FnExactLeafAt", spec := "fnExactLeafAt", unfollowed := true, recurses := true, apart := false }
def FnExactLeafAtSaid : Prop := fnExactLeafAtRow.holds Try.pinned (OpenSpec.ofChange fnExactLeafAtSpec)

/-- ITS FALSE NEIGHBOUR: 'it returns false'. Refute it at one input. -/
def fnExactLeafAtWrong : ChangeSpec := { name := "fnExactLeafAt", fn := fun _ => fun
  | [d1, d2, d3] => { results := [.lit (.bool false)], args := [d1, d2, d3] }
  | _ => none }
def FnExactLeafAtWrongFalsely : Prop := fnExactLeafAtRow.holds Try.pinned (OpenSpec.ofChange fnExactLeafAtWrong)

/-- 'laws.FnExactCompareTrees': WHATEVER THE INPUT: true; the input reads as it did. -/
def fnExactCompareTreesSpec : ChangeSpec := { name := "fnExactCompareTrees", fn := fun _ => fun
  | [d1, d2, d3] => { results := [.lit (.bool true)], args := [d1, d2, d3] }
  | _ => none }
def fnExactCompareTreesRow : OpenClaim := { program := "ytkahcjnkmbbplaa", sum := "175e3fc9681295e94f54cc15957ecc629b01373ca4a522547f81ae8e036afccc", func := "loop.example/g01009/laws.FnExactCompareTrees", spec := "fnExactCompareTrees", inPlace := ["math/bits.Add64", "math/bits.Sub64"], unfollowed := true, recurses := true, apart := false }
def FnExactCompareTreesSaid : Prop := fnExactCompareTreesRow.holds Try.pinned (OpenSpec.ofChange fnExactCompareTreesSpec)

/-- ITS FALSE NEIGHBOUR: 'it returns false'. Refute it at one input. -/
def fnExactCompareTreesWrong : ChangeSpec := { name := "fnExactCompareTrees", fn := fun _ => fun
  | [d1, d2, d3] => { results := [.lit (.bool false)], args := [d1, d2, d3] }
  | _ => none }
def FnExactCompareTreesWrongFalsely : Prop := fnExactCompareTreesRow.holds Try.pinned (OpenSpec.ofChange fnExactCompareTreesWrong)

/-- 'laws.FnExactLargestOpen': WHATEVER THE INPUT: true; the input reads as it did. -/
def fnExactLargestOpenSpec : ChangeSpec := { name := "fnExactLargestOpen", fn := fun _ => fun
  | [d1, d2] => { results := [.lit (.bool true)], args := [d1, d2] }
  | _ => none }
def fnExactLargestOpenRow : OpenClaim := { program := "ytkahcjnkmbbplaa", sum := "175e3fc9681295e94f54cc15957ecc629b01373ca4a522547f81ae8e036afccc", func := "loop.example/g01009/laws.FnExactLargestOpen", spec := "fnExactLargestOpen", unfollowed := true, recurses := true, apart := false }
def FnExactLargestOpenSaid : Prop := fnExactLargestOpenRow.holds Try.pinned (OpenSpec.ofChange fnExactLargestOpenSpec)

/-- ITS FALSE NEIGHBOUR: 'it returns false'. Refute it at one input. -/
def fnExactLargestOpenWrong : ChangeSpec := { name := "fnExactLargestOpen", fn := fun _ => fun
  | [d1, d2] => { results := [.lit (.bool false)], args := [d1, d2] }
  | _ => none }
def FnExactLargestOpenWrongFalsely : Prop := fnExactLargestOpenRow.holds Try.pinned (OpenSpec.ofChange fnExactLargestOpenWrong)

/-- 'laws.FnExactVolumesOf': WHATEVER THE INPUT: true; the input reads as it did. -/
def fnExactVolumesOfSpec : ChangeSpec := { name := "fnExactVolumesOf", fn := fun _ => fun
  | [d1, d2] => { results := [.lit (.bool true)], args := [d1, d2] }
  | _ => none }
def fnExactVolumesOfRow : OpenClaim := { program := "ytkahcjnkmbbplaa", sum := "175e3fc9681295e94f54cc15957ecc629b01373ca4a522547f81ae8e036afccc", func := "loop.example/g01009/laws.FnExactVolumesOf", spec := "fnExactVolumesOf", inPlace := ["math/bits.Add64", "math/bits.Sub64"], unfollowed := true, recurses := true, apart := false }
def FnExactVolumesOfSaid : Prop := fnExactVolumesOfRow.holds Try.pinned (OpenSpec.ofChange fnExactVolumesOfSpec)

/-- ITS FALSE NEIGHBOUR: 'it returns false'. Refute it at one input. -/
def fnExactVolumesOfWrong : ChangeSpec := { name := "fnExactVolumesOf", fn := fun _ => fun
  | [d1, d2] => { results := [.lit (.bool false)], args := [d1, d2] }
  | _ => none }
def FnExactVolumesOfWrongFalsely : Prop := fnExactVolumesOfRow.holds Try.pinned (OpenSpec.ofChange fnExactVolumesOfWrong)

/-- 'laws.FnExactShareOf': WHATEVER THE INPUT: true; the input reads as it did. -/
def fnExactShareOfSpec : ChangeSpec := { name := "fnExactShareOf", fn := fun _ => fun
  | [d1, d2, d3] => { results := [.lit (.bool true)], args := [d1, d2, d3] }
  | _ => none }
def fnExactShareOfRow : OpenClaim := { program := "ytkahcjnkmbbplaa", sum := "175e3fc9681295e94f54cc15957ecc629b01373ca4a522547f81ae8e036afccc", func := "loop.example/g01009/laws.FnExactShareOf", spec := "fnExactShareOf", inPlace := ["math/bits.Add64", "math/bits.Sub64"], unfollowed := true, recurses := true, named := ["math/bits.divideError", "math/bits.overflowError"], apart := false }
def FnExactShareOfSaid : Prop := fnExactShareOfRow.holds Try.pinned (OpenSpec.ofChange fnExactShareOfSpec)

/-- ITS FALSE NEIGHBOUR: 'it returns false'. Refute it at one input. -/
def fnExactShareOfWrong : ChangeSpec := { name := "fnExactShareOf", fn := fun _ => fun
  | [d1, d2, d3] => { results := [.lit (.bool false)], args := [d1, d2, d3] }
  | _ => none }
def FnExactShareOfWrongFalsely : Prop := fnExactShareOfRow.holds Try.pinned (OpenSpec.ofChange fnExactShareOfWrong)

/- THE SECOND FORM. 'bulk': how many values and letters a reading holds, each counted each time it is reached (what is shared counts as often as it is met; a slice's spare places count too). A statement '..UptoSaid' is the law's where the arguments, and the package variables that the reading takes, are together of bulk at most 1048576: NARROWER than '..Said'. Prove '..Said' where nothing that the law and all that it calls make is longer than what came in: it says more and counts as full. Else prove '..UptoSaid'. A law counts once. -/
mutual
def uptoBulk {H : Type} : DataW H → Nat
  | .lit (.string bytes) => bytes.length + 1
  | .lit _ => 1
  | .nil => 1
  | .ptr d => uptoBulk d + 1
  | .slice elems spare => uptoBulkAll elems + uptoBulkAll spare + 1
  | .agg parts => uptoBulkAll parts + 1
  | .iface _ d => uptoBulk d + 1
  | .map entries => uptoBulkEntries entries + 1
  | .held _ => 1
def uptoBulkAll {H : Type} : List (DataW H) → Nat
  | [] => 0
  | d :: r => uptoBulk d + uptoBulkAll r
def uptoBulkEntries {H : Type} : List (Lit × DataW H) → Nat
  | [] => 0
  | x :: r => uptoBulkEntry x + uptoBulkEntries r
def uptoBulkEntry {H : Type} : Lit × DataW H → Nat
  | (.string bytes, d) => bytes.length + uptoBulk d + 1
  | (_, d) => uptoBulk d + 1
 end
def uptoSmall : (H : Type) → List (DataW H) → Bool := fun _ ds => decide (uptoBulkAll ds ≤ 1048576)
def OpenSpec.upto (s : _root_.Go.ChangeSpec) : _root_.Go.OpenSpec := { _root_.Go.OpenSpec.ofChange s with cond := some uptoSmall }

/-- 'laws.FnExactLeafAt', WHERE WHAT IT READS IS OF BULK AT MOST 1048576: true; the input reads as it did. -/
def fnExactLeafAtUptoRow : OpenClaim := { program := "ytkahcjnkmbbplaa", sum := "175e3fc9681295e94f54cc15957ecc629b01373ca4a522547f81ae8e036afccc", func := "loop.example/g01009/laws.FnExactLeafAt", spec := "fnExactLeafAt", unfollowed := true, recurses := true, apart := false, narrowed := true }
def FnExactLeafAtUptoSaid : Prop := fnExactLeafAtUptoRow.holds Try.pinned (OpenSpec.upto fnExactLeafAtSpec)

/-- 'laws.FnExactCompareTrees', WHERE WHAT IT READS IS OF BULK AT MOST 1048576: true; the input reads as it did. -/
def fnExactCompareTreesUptoRow : OpenClaim := { program := "ytkahcjnkmbbplaa", sum := "175e3fc9681295e94f54cc15957ecc629b01373ca4a522547f81ae8e036afccc", func := "loop.example/g01009/laws.FnExactCompareTrees", spec := "fnExactCompareTrees", inPlace := ["math/bits.Add64", "math/bits.Sub64"], unfollowed := true, recurses := true, apart := false, narrowed := true }
def FnExactCompareTreesUptoSaid : Prop := fnExactCompareTreesUptoRow.holds Try.pinned (OpenSpec.upto fnExactCompareTreesSpec)

/-- 'laws.FnExactLargestOpen', WHERE WHAT IT READS IS OF BULK AT MOST 1048576: true; the input reads as it did. -/
def fnExactLargestOpenUptoRow : OpenClaim := { program := "ytkahcjnkmbbplaa", sum := "175e3fc9681295e94f54cc15957ecc629b01373ca4a522547f81ae8e036afccc", func := "loop.example/g01009/laws.FnExactLargestOpen", spec := "fnExactLargestOpen", unfollowed := true, recurses := true, apart := false, narrowed := true }
def FnExactLargestOpenUptoSaid : Prop := fnExactLargestOpenUptoRow.holds Try.pinned (OpenSpec.upto fnExactLargestOpenSpec)

/-- 'laws.FnExactVolumesOf', WHERE WHAT IT READS IS OF BULK AT MOST 1048576: true; the input reads as it did. -/
def fnExactVolumesOfUptoRow : OpenClaim := { program := "ytkahcjnkmbbplaa", sum := "175e3fc9681295e94f54cc15957ecc629b01373ca4a522547f81ae8e036afccc", func := "loop.example/g01009/laws.FnExactVolumesOf", spec := "fnExactVolumesOf", inPlace := ["math/bits.Add64", "math/bits.Sub64"], unfollowed := true, recurses := true, apart := false, narrowed := true }
def FnExactVolumesOfUptoSaid : Prop := fnExactVolumesOfUptoRow.holds Try.pinned (OpenSpec.upto fnExactVolumesOfSpec)

/-- 'laws.FnExactShareOf', WHERE WHAT IT READS IS OF BULK AT MOST 1048576: true; the input reads as it did. -/
def fnExactShareOfUptoRow : OpenClaim := { program := "ytkahcjnkmbbplaa", sum := "175e3fc9681295e94f54cc15957ecc629b01373ca4a522547f81ae8e036afccc", func := "loop.example/g01009/laws.FnExactShareOf", spec := "fnExactShareOf", inPlace := ["math/bits.Add64", "math/bits.Sub64"], unfollowed := true, recurses := true, named := ["math/bits.divideError", "math/bits.overflowError"], apart := false, narrowed := true }
def FnExactShareOfUptoSaid : Prop := fnExactShareOfUptoRow.holds Try.pinned (OpenSpec.upto fnExactShareOfSpec)

end Rows
end Go.Proofs.Ytkahcjnkmbbplaa
