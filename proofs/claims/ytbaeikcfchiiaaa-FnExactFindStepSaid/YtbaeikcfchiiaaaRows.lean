/-
  No cell of these rows narrows 'for every input' (looked for: loops, veiled, ifaces, maps, wideKeys, modest, calm, conditions, laid).
  DERIVED. THE GIVEN ROWS OF THIS SEAT. 11 by the template 'for every input the law returns true; each argument reads behind the call as it read before'; 0 by the template 'total and deterministic' (their statements: YtbaeikcfchiiaaaTotals.lean).
  GIVEN WITH THE SEED: the statements are not yours to turn. If you find one false, say at which input.
  Laid BY PROGRAM, IN A SANDBOX (cutbox-rows.mjs): the forced cells as the released guide's own fill.sh prints them over the translation 5c80c643bd3717db… (all of the seat's roots in one cut). By AI agents, Wed Nov 11 2026. No macro, syntax, notation, axiom, sorry.
-/
import Derived.Test.YtbaeikcfchiiaaaChecked
import GoSem.Claim
import GoSem.ClaimJoined
import GoSem.ClaimMapViews
import Derived.JoinedTies
import Derived.KernelRfl
namespace Go.Proofs.Ytbaeikcfchiiaaa
/- THE CELL 'sum', in the pinned program and in every row, IS THE sha256 OF THE DUMP (.gsa) THAT YtbaeikcfchiiaaaProg.lean LOADS. Nothing in Lean hashes anything: it is a label: what it is worth is what the hold of that sum in a sandbox is worth. -/
noncomputable def Try.pinned : Pinned := { name := "ytbaeikcfchiiaaa", sum := "5c80c643bd3717dbb452ded022eb53676fe2411735ab2b64008d24e80527adcc", checked := Try.checked }
namespace Rows
def none {H : Type} : Left H := { results := [], args := [] }

/-- 'laws.FnExactNarrowAt': WHATEVER THE INPUT: true; the input reads as it did. -/
def fnExactNarrowAtSpec : ChangeSpec := { name := "fnExactNarrowAt", fn := fun _ => fun
  | [d1, d2, d3, d4, d5] => { results := [.lit (.bool true)], args := [d1, d2, d3, d4, d5] }
  | _ => none }
def fnExactNarrowAtRow : OpenClaim := { program := "ytbaeikcfchiiaaa", sum := "5c80c643bd3717dbb452ded022eb53676fe2411735ab2b64008d24e80527adcc", func := "loop.example/g01009/laws.FnExactNarrowAt", spec := "fnExactNarrowAt", inPlace := ["math/bits.Add64", "math/bits.Sub64"], unfollowed := true, recurses := true, apart := false }
def FnExactNarrowAtSaid : Prop := fnExactNarrowAtRow.holds Try.pinned (OpenSpec.ofChange fnExactNarrowAtSpec)

/-- ITS FALSE NEIGHBOUR: 'it returns false'. Refute it at one input. -/
def fnExactNarrowAtWrong : ChangeSpec := { name := "fnExactNarrowAt", fn := fun _ => fun
  | [d1, d2, d3, d4, d5] => { results := [.lit (.bool false)], args := [d1, d2, d3, d4, d5] }
  | _ => none }
def FnExactNarrowAtWrongFalsely : Prop := fnExactNarrowAtRow.holds Try.pinned (OpenSpec.ofChange fnExactNarrowAtWrong)

/-- 'laws.FnExactStepHolds': WHATEVER THE INPUT: true; the input reads as it did. -/
def fnExactStepHoldsSpec : ChangeSpec := { name := "fnExactStepHolds", fn := fun _ => fun
  | [d1, d2, d3, d4, d5] => { results := [.lit (.bool true)], args := [d1, d2, d3, d4, d5] }
  | _ => none }
def fnExactStepHoldsRow : OpenClaim := { program := "ytbaeikcfchiiaaa", sum := "5c80c643bd3717dbb452ded022eb53676fe2411735ab2b64008d24e80527adcc", func := "loop.example/g01009/laws.FnExactStepHolds", spec := "fnExactStepHolds", unfollowed := true, recurses := true, apart := false }
def FnExactStepHoldsSaid : Prop := fnExactStepHoldsRow.holds Try.pinned (OpenSpec.ofChange fnExactStepHoldsSpec)

/-- ITS FALSE NEIGHBOUR: 'it returns false'. Refute it at one input. -/
def fnExactStepHoldsWrong : ChangeSpec := { name := "fnExactStepHolds", fn := fun _ => fun
  | [d1, d2, d3, d4, d5] => { results := [.lit (.bool false)], args := [d1, d2, d3, d4, d5] }
  | _ => none }
def FnExactStepHoldsWrongFalsely : Prop := fnExactStepHoldsRow.holds Try.pinned (OpenSpec.ofChange fnExactStepHoldsWrong)

/-- 'laws.FnExactIsCatalogue': WHATEVER THE INPUT: true; the input reads as it did. -/
def fnExactIsCatalogueSpec : ChangeSpec := { name := "fnExactIsCatalogue", fn := fun _ => fun
  | [d] => { results := [.lit (.bool true)], args := [d] }
  | _ => none }
def fnExactIsCatalogueRow : OpenClaim := { program := "ytbaeikcfchiiaaa", sum := "5c80c643bd3717dbb452ded022eb53676fe2411735ab2b64008d24e80527adcc", func := "loop.example/g01009/laws.FnExactIsCatalogue", spec := "fnExactIsCatalogue", apart := false }
def FnExactIsCatalogueSaid : Prop := fnExactIsCatalogueRow.holds Try.pinned (OpenSpec.ofChange fnExactIsCatalogueSpec)

/-- ITS FALSE NEIGHBOUR: 'it returns false'. Refute it at one input. -/
def fnExactIsCatalogueWrong : ChangeSpec := { name := "fnExactIsCatalogue", fn := fun _ => fun
  | [d] => { results := [.lit (.bool false)], args := [d] }
  | _ => none }
def FnExactIsCatalogueWrongFalsely : Prop := fnExactIsCatalogueRow.holds Try.pinned (OpenSpec.ofChange fnExactIsCatalogueWrong)

/-- 'laws.FnExactOpenWidth': WHATEVER THE INPUT: true; the input reads as it did. -/
def fnExactOpenWidthSpec : ChangeSpec := { name := "fnExactOpenWidth", fn := fun _ => fun
  | [d] => { results := [.lit (.bool true)], args := [d] }
  | _ => none }
def fnExactOpenWidthRow : OpenClaim := { program := "ytbaeikcfchiiaaa", sum := "5c80c643bd3717dbb452ded022eb53676fe2411735ab2b64008d24e80527adcc", func := "loop.example/g01009/laws.FnExactOpenWidth", spec := "fnExactOpenWidth", apart := false }
def FnExactOpenWidthSaid : Prop := fnExactOpenWidthRow.holds Try.pinned (OpenSpec.ofChange fnExactOpenWidthSpec)

/-- ITS FALSE NEIGHBOUR: 'it returns false'. Refute it at one input. -/
def fnExactOpenWidthWrong : ChangeSpec := { name := "fnExactOpenWidth", fn := fun _ => fun
  | [d] => { results := [.lit (.bool false)], args := [d] }
  | _ => none }
def FnExactOpenWidthWrongFalsely : Prop := fnExactOpenWidthRow.holds Try.pinned (OpenSpec.ofChange fnExactOpenWidthWrong)

/-- 'laws.FnExactFamilyCounts': WHATEVER THE INPUT: true; the input reads as it did. -/
def fnExactFamilyCountsSpec : ChangeSpec := { name := "fnExactFamilyCounts", fn := fun _ => fun
  | [d1, d2, d3] => { results := [.lit (.bool true)], args := [d1, d2, d3] }
  | _ => none }
def fnExactFamilyCountsRow : OpenClaim := { program := "ytbaeikcfchiiaaa", sum := "5c80c643bd3717dbb452ded022eb53676fe2411735ab2b64008d24e80527adcc", func := "loop.example/g01009/laws.FnExactFamilyCounts", spec := "fnExactFamilyCounts", unfollowed := true, recurses := true, apart := false }
def FnExactFamilyCountsSaid : Prop := fnExactFamilyCountsRow.holds Try.pinned (OpenSpec.ofChange fnExactFamilyCountsSpec)

/-- ITS FALSE NEIGHBOUR: 'it returns false'. Refute it at one input. -/
def fnExactFamilyCountsWrong : ChangeSpec := { name := "fnExactFamilyCounts", fn := fun _ => fun
  | [d1, d2, d3] => { results := [.lit (.bool false)], args := [d1, d2, d3] }
  | _ => none }
def FnExactFamilyCountsWrongFalsely : Prop := fnExactFamilyCountsRow.holds Try.pinned (OpenSpec.ofChange fnExactFamilyCountsWrong)

/-- 'laws.FnExactBoxesOfKind': WHATEVER THE INPUT: true; the input reads as it did. -/
def fnExactBoxesOfKindSpec : ChangeSpec := { name := "fnExactBoxesOfKind", fn := fun _ => fun
  | [d1, d2, d3] => { results := [.lit (.bool true)], args := [d1, d2, d3] }
  | _ => none }
def fnExactBoxesOfKindRow : OpenClaim := { program := "ytbaeikcfchiiaaa", sum := "5c80c643bd3717dbb452ded022eb53676fe2411735ab2b64008d24e80527adcc", func := "loop.example/g01009/laws.FnExactBoxesOfKind", spec := "fnExactBoxesOfKind", unfollowed := true, recurses := true, apart := false }
def FnExactBoxesOfKindSaid : Prop := fnExactBoxesOfKindRow.holds Try.pinned (OpenSpec.ofChange fnExactBoxesOfKindSpec)

/-- ITS FALSE NEIGHBOUR: 'it returns false'. Refute it at one input. -/
def fnExactBoxesOfKindWrong : ChangeSpec := { name := "fnExactBoxesOfKind", fn := fun _ => fun
  | [d1, d2, d3] => { results := [.lit (.bool false)], args := [d1, d2, d3] }
  | _ => none }
def FnExactBoxesOfKindWrongFalsely : Prop := fnExactBoxesOfKindRow.holds Try.pinned (OpenSpec.ofChange fnExactBoxesOfKindWrong)

/-- 'laws.FnExactFindSystem': WHATEVER THE INPUT: true; the input reads as it did. -/
def fnExactFindSystemSpec : ChangeSpec := { name := "fnExactFindSystem", fn := fun _ => fun
  | [d1, d2] => { results := [.lit (.bool true)], args := [d1, d2] }
  | _ => none }
def fnExactFindSystemRow : OpenClaim := { program := "ytbaeikcfchiiaaa", sum := "5c80c643bd3717dbb452ded022eb53676fe2411735ab2b64008d24e80527adcc", func := "loop.example/g01009/laws.FnExactFindSystem", spec := "fnExactFindSystem", inPlace := ["internal/bytealg.abigen_runtime_cmpstring"], unfollowed := true, recurses := true, apart := false }
def FnExactFindSystemSaid : Prop := fnExactFindSystemRow.holds Try.pinned (OpenSpec.ofChange fnExactFindSystemSpec)

/-- ITS FALSE NEIGHBOUR: 'it returns false'. Refute it at one input. -/
def fnExactFindSystemWrong : ChangeSpec := { name := "fnExactFindSystem", fn := fun _ => fun
  | [d1, d2] => { results := [.lit (.bool false)], args := [d1, d2] }
  | _ => none }
def FnExactFindSystemWrongFalsely : Prop := fnExactFindSystemRow.holds Try.pinned (OpenSpec.ofChange fnExactFindSystemWrong)

/-- 'laws.FnExactTouchingHolds': WHATEVER THE INPUT: true; the input reads as it did. -/
def fnExactTouchingHoldsSpec : ChangeSpec := { name := "fnExactTouchingHolds", fn := fun _ => fun
  | [d1, d2] => { results := [.lit (.bool true)], args := [d1, d2] }
  | _ => none }
def fnExactTouchingHoldsRow : OpenClaim := { program := "ytbaeikcfchiiaaa", sum := "5c80c643bd3717dbb452ded022eb53676fe2411735ab2b64008d24e80527adcc", func := "loop.example/g01009/laws.FnExactTouchingHolds", spec := "fnExactTouchingHolds", unfollowed := true, recurses := true, apart := false }
def FnExactTouchingHoldsSaid : Prop := fnExactTouchingHoldsRow.holds Try.pinned (OpenSpec.ofChange fnExactTouchingHoldsSpec)

/-- ITS FALSE NEIGHBOUR: 'it returns false'. Refute it at one input. -/
def fnExactTouchingHoldsWrong : ChangeSpec := { name := "fnExactTouchingHolds", fn := fun _ => fun
  | [d1, d2] => { results := [.lit (.bool false)], args := [d1, d2] }
  | _ => none }
def FnExactTouchingHoldsWrongFalsely : Prop := fnExactTouchingHoldsRow.holds Try.pinned (OpenSpec.ofChange fnExactTouchingHoldsWrong)

/-- 'laws.FnExactSettledSystems': WHATEVER THE INPUT: true; the input reads as it did. -/
def fnExactSettledSystemsSpec : ChangeSpec := { name := "fnExactSettledSystems", fn := fun _ => fun
  | [d] => { results := [.lit (.bool true)], args := [d] }
  | _ => none }
def fnExactSettledSystemsRow : OpenClaim := { program := "ytbaeikcfchiiaaa", sum := "5c80c643bd3717dbb452ded022eb53676fe2411735ab2b64008d24e80527adcc", func := "loop.example/g01009/laws.FnExactSettledSystems", spec := "fnExactSettledSystems", apart := false }
def FnExactSettledSystemsSaid : Prop := fnExactSettledSystemsRow.holds Try.pinned (OpenSpec.ofChange fnExactSettledSystemsSpec)

/-- ITS FALSE NEIGHBOUR: 'it returns false'. Refute it at one input. -/
def fnExactSettledSystemsWrong : ChangeSpec := { name := "fnExactSettledSystems", fn := fun _ => fun
  | [d] => { results := [.lit (.bool false)], args := [d] }
  | _ => none }
def FnExactSettledSystemsWrongFalsely : Prop := fnExactSettledSystemsRow.holds Try.pinned (OpenSpec.ofChange fnExactSettledSystemsWrong)

/-- 'laws.FnExactFindStep': WHATEVER THE INPUT: true; the input reads as it did. -/
def fnExactFindStepSpec : ChangeSpec := { name := "fnExactFindStep", fn := fun _ => fun
  | [d1, d2, d3, d4, d5] => { results := [.lit (.bool true)], args := [d1, d2, d3, d4, d5] }
  | _ => none }
def fnExactFindStepRow : OpenClaim := { program := "ytbaeikcfchiiaaa", sum := "5c80c643bd3717dbb452ded022eb53676fe2411735ab2b64008d24e80527adcc", func := "loop.example/g01009/laws.FnExactFindStep", spec := "fnExactFindStep", inPlace := ["math/bits.Add64", "math/bits.Sub64"], unfollowed := true, recurses := true, apart := false }
def FnExactFindStepSaid : Prop := fnExactFindStepRow.holds Try.pinned (OpenSpec.ofChange fnExactFindStepSpec)

/-- ITS FALSE NEIGHBOUR: 'it returns false'. Refute it at one input. -/
def fnExactFindStepWrong : ChangeSpec := { name := "fnExactFindStep", fn := fun _ => fun
  | [d1, d2, d3, d4, d5] => { results := [.lit (.bool false)], args := [d1, d2, d3, d4, d5] }
  | _ => none }
def FnExactFindStepWrongFalsely : Prop := fnExactFindStepRow.holds Try.pinned (OpenSpec.ofChange fnExactFindStepWrong)

/-- 'laws.FnExactCheckTrack': WHATEVER THE INPUT: true; the input reads as it did. -/
def fnExactCheckTrackSpec : ChangeSpec := { name := "fnExactCheckTrack", fn := fun _ => fun
  | [d1, d2, d3, d4] => { results := [.lit (.bool true)], args := [d1, d2, d3, d4] }
  | _ => none }
def fnExactCheckTrackRow : OpenClaim := { program := "ytbaeikcfchiiaaa", sum := "5c80c643bd3717dbb452ded022eb53676fe2411735ab2b64008d24e80527adcc", func := "loop.example/g01009/laws.FnExactCheckTrack", spec := "fnExactCheckTrack", unfollowed := true, recurses := true, apart := false }
def FnExactCheckTrackSaid : Prop := fnExactCheckTrackRow.holds Try.pinned (OpenSpec.ofChange fnExactCheckTrackSpec)

/-- ITS FALSE NEIGHBOUR: 'it returns false'. Refute it at one input. -/
def fnExactCheckTrackWrong : ChangeSpec := { name := "fnExactCheckTrack", fn := fun _ => fun
  | [d1, d2, d3, d4] => { results := [.lit (.bool false)], args := [d1, d2, d3, d4] }
  | _ => none }
def FnExactCheckTrackWrongFalsely : Prop := fnExactCheckTrackRow.holds Try.pinned (OpenSpec.ofChange fnExactCheckTrackWrong)

/- THE SECOND FORM. 'bulk': how many values and letters a reading holds, each counted each time it is reached (what is shared counts as often as it is met; a slice's spare places count too). A statement '..UptoSaid' is the law's where the arguments, and the package variables that the reading takes, are together of bulk at most 1048576: NARROWER than '..Said'. Prove '..Said' where nothing that the law and all that it calls make is longer than what came in: it says more and counts as full. Else prove '..UptoSaid'. A law counts once. -/
mutual
def uptoBulk {H : Type} : DataW H → Nat
  | .lit (.string bytes) => bytes.length + 1
  | .lit _ => 1
  | .nil => 1
  | .ptr d => uptoBulk d + 1
  | .slice elems spare => uptoBulkAll elems + uptoBulkAll spare + 1
  | .agg parts => uptoBulkAll parts + 1
  | .iface _ d => uptoBulk d + 1
  | .map entries => uptoBulkEntries entries + 1
  | .held _ => 1
def uptoBulkAll {H : Type} : List (DataW H) → Nat
  | [] => 0
  | d :: r => uptoBulk d + uptoBulkAll r
def uptoBulkEntries {H : Type} : List (Lit × DataW H) → Nat
  | [] => 0
  | x :: r => uptoBulkEntry x + uptoBulkEntries r
def uptoBulkEntry {H : Type} : Lit × DataW H → Nat
  | (.string bytes, d) => bytes.length + uptoBulk d + 1
  | (_, d) => uptoBulk d + 1
 end
def uptoSmall : (H : Type) → List (DataW H) → Bool := fun _ ds => decide (uptoBulkAll ds ≤ 1048576)
def OpenSpec.upto (s : _root_.Go.ChangeSpec) : _root_.Go.OpenSpec := { _root_.Go.OpenSpec.ofChange s with cond := some uptoSmall }

/-- 'laws.FnExactNarrowAt', WHERE WHAT IT READS IS OF BULK AT MOST 1048576: true; the input reads as it did. -/
def fnExactNarrowAtUptoRow : OpenClaim := { program := "ytbaeikcfchiiaaa", sum := "5c80c643bd3717dbb452ded022eb53676fe2411735ab2b64008d24e80527adcc", func := "loop.example/g01009/laws.FnExactNarrowAt", spec := "fnExactNarrowAt", inPlace := ["math/bits.Add64", "math/bits.Sub64"], unfollowed := true, recurses := true, apart := false, narrowed := true }
def FnExactNarrowAtUptoSaid : Prop := fnExactNarrowAtUptoRow.holds Try.pinned (OpenSpec.upto fnExactNarrowAtSpec)

/-- 'laws.FnExactStepHolds', WHERE WHAT IT READS IS OF BULK AT MOST 1048576: true; the input reads as it did. -/
def fnExactStepHoldsUptoRow : OpenClaim := { program := "ytbaeikcfchiiaaa", sum := "5c80c643bd3717dbb452ded022eb53676fe2411735ab2b64008d24e80527adcc", func := "loop.example/g01009/laws.FnExactStepHolds", spec := "fnExactStepHolds", unfollowed := true, recurses := true, apart := false, narrowed := true }
def FnExactStepHoldsUptoSaid : Prop := fnExactStepHoldsUptoRow.holds Try.pinned (OpenSpec.upto fnExactStepHoldsSpec)

/-- 'laws.FnExactIsCatalogue', WHERE WHAT IT READS IS OF BULK AT MOST 1048576: true; the input reads as it did. -/
def fnExactIsCatalogueUptoRow : OpenClaim := { program := "ytbaeikcfchiiaaa", sum := "5c80c643bd3717dbb452ded022eb53676fe2411735ab2b64008d24e80527adcc", func := "loop.example/g01009/laws.FnExactIsCatalogue", spec := "fnExactIsCatalogue", apart := false, narrowed := true }
def FnExactIsCatalogueUptoSaid : Prop := fnExactIsCatalogueUptoRow.holds Try.pinned (OpenSpec.upto fnExactIsCatalogueSpec)

/-- 'laws.FnExactOpenWidth', WHERE WHAT IT READS IS OF BULK AT MOST 1048576: true; the input reads as it did. -/
def fnExactOpenWidthUptoRow : OpenClaim := { program := "ytbaeikcfchiiaaa", sum := "5c80c643bd3717dbb452ded022eb53676fe2411735ab2b64008d24e80527adcc", func := "loop.example/g01009/laws.FnExactOpenWidth", spec := "fnExactOpenWidth", apart := false, narrowed := true }
def FnExactOpenWidthUptoSaid : Prop := fnExactOpenWidthUptoRow.holds Try.pinned (OpenSpec.upto fnExactOpenWidthSpec)

/-- 'laws.FnExactFamilyCounts', WHERE WHAT IT READS IS OF BULK AT MOST 1048576: true; the input reads as it did. -/
def fnExactFamilyCountsUptoRow : OpenClaim := { program := "ytbaeikcfchiiaaa", sum := "5c80c643bd3717dbb452ded022eb53676fe2411735ab2b64008d24e80527adcc", func := "loop.example/g01009/laws.FnExactFamilyCounts", spec := "fnExactFamilyCounts", unfollowed := true, recurses := true, apart := false, narrowed := true }
def FnExactFamilyCountsUptoSaid : Prop := fnExactFamilyCountsUptoRow.holds Try.pinned (OpenSpec.upto fnExactFamilyCountsSpec)

/-- 'laws.FnExactBoxesOfKind', WHERE WHAT IT READS IS OF BULK AT MOST 1048576: true; the input reads as it did. -/
def fnExactBoxesOfKindUptoRow : OpenClaim := { program := "ytbaeikcfchiiaaa", sum := "5c80c643bd3717dbb452ded022eb53676fe2411735ab2b64008d24e80527adcc", func := "loop.example/g01009/laws.FnExactBoxesOfKind", spec := "fnExactBoxesOfKind", unfollowed := true, recurses := true, apart := false, narrowed := true }
def FnExactBoxesOfKindUptoSaid : Prop := fnExactBoxesOfKindUptoRow.holds Try.pinned (OpenSpec.upto fnExactBoxesOfKindSpec)

/-- 'laws.FnExactFindSystem', WHERE WHAT IT READS IS OF BULK AT MOST 1048576: true; the input reads as it did. -/
def fnExactFindSystemUptoRow : OpenClaim := { program := "ytbaeikcfchiiaaa", sum := "5c80c643bd3717dbb452ded022eb53676fe2411735ab2b64008d24e80527adcc", func := "loop.example/g01009/laws.FnExactFindSystem", spec := "fnExactFindSystem", inPlace := ["internal/bytealg.abigen_runtime_cmpstring"], unfollowed := true, recurses := true, apart := false, narrowed := true }
def FnExactFindSystemUptoSaid : Prop := fnExactFindSystemUptoRow.holds Try.pinned (OpenSpec.upto fnExactFindSystemSpec)

/-- 'laws.FnExactTouchingHolds', WHERE WHAT IT READS IS OF BULK AT MOST 1048576: true; the input reads as it did. -/
def fnExactTouchingHoldsUptoRow : OpenClaim := { program := "ytbaeikcfchiiaaa", sum := "5c80c643bd3717dbb452ded022eb53676fe2411735ab2b64008d24e80527adcc", func := "loop.example/g01009/laws.FnExactTouchingHolds", spec := "fnExactTouchingHolds", unfollowed := true, recurses := true, apart := false, narrowed := true }
def FnExactTouchingHoldsUptoSaid : Prop := fnExactTouchingHoldsUptoRow.holds Try.pinned (OpenSpec.upto fnExactTouchingHoldsSpec)

/-- 'laws.FnExactSettledSystems', WHERE WHAT IT READS IS OF BULK AT MOST 1048576: true; the input reads as it did. -/
def fnExactSettledSystemsUptoRow : OpenClaim := { program := "ytbaeikcfchiiaaa", sum := "5c80c643bd3717dbb452ded022eb53676fe2411735ab2b64008d24e80527adcc", func := "loop.example/g01009/laws.FnExactSettledSystems", spec := "fnExactSettledSystems", apart := false, narrowed := true }
def FnExactSettledSystemsUptoSaid : Prop := fnExactSettledSystemsUptoRow.holds Try.pinned (OpenSpec.upto fnExactSettledSystemsSpec)

/-- 'laws.FnExactFindStep', WHERE WHAT IT READS IS OF BULK AT MOST 1048576: true; the input reads as it did. -/
def fnExactFindStepUptoRow : OpenClaim := { program := "ytbaeikcfchiiaaa", sum := "5c80c643bd3717dbb452ded022eb53676fe2411735ab2b64008d24e80527adcc", func := "loop.example/g01009/laws.FnExactFindStep", spec := "fnExactFindStep", inPlace := ["math/bits.Add64", "math/bits.Sub64"], unfollowed := true, recurses := true, apart := false, narrowed := true }
def FnExactFindStepUptoSaid : Prop := fnExactFindStepUptoRow.holds Try.pinned (OpenSpec.upto fnExactFindStepSpec)

/-- 'laws.FnExactCheckTrack', WHERE WHAT IT READS IS OF BULK AT MOST 1048576: true; the input reads as it did. -/
def fnExactCheckTrackUptoRow : OpenClaim := { program := "ytbaeikcfchiiaaa", sum := "5c80c643bd3717dbb452ded022eb53676fe2411735ab2b64008d24e80527adcc", func := "loop.example/g01009/laws.FnExactCheckTrack", spec := "fnExactCheckTrack", unfollowed := true, recurses := true, apart := false, narrowed := true }
def FnExactCheckTrackUptoSaid : Prop := fnExactCheckTrackUptoRow.holds Try.pinned (OpenSpec.upto fnExactCheckTrackSpec)

end Rows
end Go.Proofs.Ytbaeikcfchiiaaa
