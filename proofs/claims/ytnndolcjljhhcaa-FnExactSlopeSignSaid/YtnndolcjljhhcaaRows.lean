/-
  No cell of these rows narrows 'for every input' (looked for: loops, veiled, ifaces, maps, wideKeys, modest, calm, conditions, laid).
  DERIVED. THE GIVEN ROWS OF THIS SEAT. 11 by the template 'for every input the law returns true; each argument reads behind the call as it read before'; 0 by the template 'total and deterministic' (their statements: YtnndolcjljhhcaaTotals.lean).
  GIVEN WITH THE SEED: the statements are not yours to turn. If you find one false, say at which input.
  Laid BY PROGRAM, IN A SANDBOX (cutbox-rows.mjs): the forced cells as the released guide's own fill.sh prints them over the translation cae29a0ed49da7ea… (all of the seat's roots in one cut). By AI agents, Wed Nov 11 2026. No macro, syntax, notation, axiom, sorry.
-/
import Derived.Test.YtnndolcjljhhcaaChecked
import GoSem.Claim
import GoSem.ClaimJoined
import GoSem.ClaimMapViews
import Derived.JoinedTies
import Derived.KernelRfl
namespace Go.Proofs.Ytnndolcjljhhcaa
/- THE CELL 'sum', in the pinned program and in every row, IS THE sha256 OF THE DUMP (.gsa) THAT YtnndolcjljhhcaaProg.lean LOADS. Nothing in Lean hashes anything: it is a label: what it is worth is what the hold of that sum in a sandbox is worth. -/
noncomputable def Try.pinned : Pinned := { name := "ytnndolcjljhhcaa", sum := "cae29a0ed49da7eaab023facdf3758cd558376827f8235647d628026f81318d1", checked := Try.checked }
namespace Rows
def none {H : Type} : Left H := { results := [], args := [] }

/-- 'laws.FnExactFamilyAt': WHATEVER THE INPUT: true; the input reads as it did. -/
def fnExactFamilyAtSpec : ChangeSpec := { name := "fnExactFamilyAt", fn := fun _ => fun
  | [d1, d2, d3, d4] => { results := [.lit (.bool true)], args := [d1, d2, d3, d4] }
  | _ => none }
def fnExactFamilyAtRow : OpenClaim := { program := "ytnndolcjljhhcaa", sum := "cae29a0ed49da7eaab023facdf3758cd558376827f8235647d628026f81318d1", func := "loop.example/g01009/laws.FnExactFamilyAt", spec := "fnExactFamilyAt", unfollowed := true, recurses := true, apart := false }
def FnExactFamilyAtSaid : Prop := fnExactFamilyAtRow.holds Try.pinned (OpenSpec.ofChange fnExactFamilyAtSpec)

/-- ITS FALSE NEIGHBOUR: 'it returns false'. Refute it at one input. -/
def fnExactFamilyAtWrong : ChangeSpec := { name := "fnExactFamilyAt", fn := fun _ => fun
  | [d1, d2, d3, d4] => { results := [.lit (.bool false)], args := [d1, d2, d3, d4] }
  | _ => none }
def FnExactFamilyAtWrongFalsely : Prop := fnExactFamilyAtRow.holds Try.pinned (OpenSpec.ofChange fnExactFamilyAtWrong)

/-- 'laws.FnExactSubtreeAt': WHATEVER THE INPUT: true; the input reads as it did. -/
def fnExactSubtreeAtSpec : ChangeSpec := { name := "fnExactSubtreeAt", fn := fun _ => fun
  | [d1, d2, d3] => { results := [.lit (.bool true)], args := [d1, d2, d3] }
  | _ => none }
def fnExactSubtreeAtRow : OpenClaim := { program := "ytnndolcjljhhcaa", sum := "cae29a0ed49da7eaab023facdf3758cd558376827f8235647d628026f81318d1", func := "loop.example/g01009/laws.FnExactSubtreeAt", spec := "fnExactSubtreeAt", recurses := true, apart := false }
def FnExactSubtreeAtSaid : Prop := fnExactSubtreeAtRow.holds Try.pinned (OpenSpec.ofChange fnExactSubtreeAtSpec)

/-- ITS FALSE NEIGHBOUR: 'it returns false'. Refute it at one input. -/
def fnExactSubtreeAtWrong : ChangeSpec := { name := "fnExactSubtreeAt", fn := fun _ => fun
  | [d1, d2, d3] => { results := [.lit (.bool false)], args := [d1, d2, d3] }
  | _ => none }
def FnExactSubtreeAtWrongFalsely : Prop := fnExactSubtreeAtRow.holds Try.pinned (OpenSpec.ofChange fnExactSubtreeAtWrong)

/-- 'laws.FnExactCountLeaves': WHATEVER THE INPUT: true; the input reads as it did. -/
def fnExactCountLeavesSpec : ChangeSpec := { name := "fnExactCountLeaves", fn := fun _ => fun
  | [d1, d2] => { results := [.lit (.bool true)], args := [d1, d2] }
  | _ => none }
def fnExactCountLeavesRow : OpenClaim := { program := "ytnndolcjljhhcaa", sum := "cae29a0ed49da7eaab023facdf3758cd558376827f8235647d628026f81318d1", func := "loop.example/g01009/laws.FnExactCountLeaves", spec := "fnExactCountLeaves", recurses := true, apart := false }
def FnExactCountLeavesSaid : Prop := fnExactCountLeavesRow.holds Try.pinned (OpenSpec.ofChange fnExactCountLeavesSpec)

/-- ITS FALSE NEIGHBOUR: 'it returns false'. Refute it at one input. -/
def fnExactCountLeavesWrong : ChangeSpec := { name := "fnExactCountLeaves", fn := fun _ => fun
  | [d1, d2] => { results := [.lit (.bool false)], args := [d1, d2] }
  | _ => none }
def FnExactCountLeavesWrongFalsely : Prop := fnExactCountLeavesRow.holds Try.pinned (OpenSpec.ofChange fnExactCountLeavesWrong)

/-- 'laws.FnExactLeafPlaces': WHATEVER THE INPUT: true; the input reads as it did. -/
def fnExactLeafPlacesSpec : ChangeSpec := { name := "fnExactLeafPlaces", fn := fun _ => fun
  | [d1, d2] => { results := [.lit (.bool true)], args := [d1, d2] }
  | _ => none }
def fnExactLeafPlacesRow : OpenClaim := { program := "ytnndolcjljhhcaa", sum := "cae29a0ed49da7eaab023facdf3758cd558376827f8235647d628026f81318d1", func := "loop.example/g01009/laws.FnExactLeafPlaces", spec := "fnExactLeafPlaces", recurses := true, apart := false }
def FnExactLeafPlacesSaid : Prop := fnExactLeafPlacesRow.holds Try.pinned (OpenSpec.ofChange fnExactLeafPlacesSpec)

/-- ITS FALSE NEIGHBOUR: 'it returns false'. Refute it at one input. -/
def fnExactLeafPlacesWrong : ChangeSpec := { name := "fnExactLeafPlaces", fn := fun _ => fun
  | [d1, d2] => { results := [.lit (.bool false)], args := [d1, d2] }
  | _ => none }
def FnExactLeafPlacesWrongFalsely : Prop := fnExactLeafPlacesRow.holds Try.pinned (OpenSpec.ofChange fnExactLeafPlacesWrong)

/-- 'laws.FnExactReplaceLeaf': WHATEVER THE INPUT: true; the input reads as it did. -/
def fnExactReplaceLeafSpec : ChangeSpec := { name := "fnExactReplaceLeaf", fn := fun _ => fun
  | [d1, d2, d3, d4] => { results := [.lit (.bool true)], args := [d1, d2, d3, d4] }
  | _ => none }
def fnExactReplaceLeafRow : OpenClaim := { program := "ytnndolcjljhhcaa", sum := "cae29a0ed49da7eaab023facdf3758cd558376827f8235647d628026f81318d1", func := "loop.example/g01009/laws.FnExactReplaceLeaf", spec := "fnExactReplaceLeaf", recurses := true, apart := false }
def FnExactReplaceLeafSaid : Prop := fnExactReplaceLeafRow.holds Try.pinned (OpenSpec.ofChange fnExactReplaceLeafSpec)

/-- ITS FALSE NEIGHBOUR: 'it returns false'. Refute it at one input. -/
def fnExactReplaceLeafWrong : ChangeSpec := { name := "fnExactReplaceLeaf", fn := fun _ => fun
  | [d1, d2, d3, d4] => { results := [.lit (.bool false)], args := [d1, d2, d3, d4] }
  | _ => none }
def FnExactReplaceLeafWrongFalsely : Prop := fnExactReplaceLeafRow.holds Try.pinned (OpenSpec.ofChange fnExactReplaceLeafWrong)

/-- 'laws.FnExactShortenTree': WHATEVER THE INPUT: true; the input reads as it did. -/
def fnExactShortenTreeSpec : ChangeSpec := { name := "fnExactShortenTree", fn := fun _ => fun
  | [d1, d2] => { results := [.lit (.bool true)], args := [d1, d2] }
  | _ => none }
def fnExactShortenTreeRow : OpenClaim := { program := "ytnndolcjljhhcaa", sum := "cae29a0ed49da7eaab023facdf3758cd558376827f8235647d628026f81318d1", func := "loop.example/g01009/laws.FnExactShortenTree", spec := "fnExactShortenTree", recurses := true, apart := false }
def FnExactShortenTreeSaid : Prop := fnExactShortenTreeRow.holds Try.pinned (OpenSpec.ofChange fnExactShortenTreeSpec)

/-- ITS FALSE NEIGHBOUR: 'it returns false'. Refute it at one input. -/
def fnExactShortenTreeWrong : ChangeSpec := { name := "fnExactShortenTree", fn := fun _ => fun
  | [d1, d2] => { results := [.lit (.bool false)], args := [d1, d2] }
  | _ => none }
def FnExactShortenTreeWrongFalsely : Prop := fnExactShortenTreeRow.holds Try.pinned (OpenSpec.ofChange fnExactShortenTreeWrong)

/-- 'laws.FnExactReasonCounts': WHATEVER THE INPUT: true; the input reads as it did. -/
def fnExactReasonCountsSpec : ChangeSpec := { name := "fnExactReasonCounts", fn := fun _ => fun
  | [d1, d2, d3] => { results := [.lit (.bool true)], args := [d1, d2, d3] }
  | _ => none }
def fnExactReasonCountsRow : OpenClaim := { program := "ytnndolcjljhhcaa", sum := "cae29a0ed49da7eaab023facdf3758cd558376827f8235647d628026f81318d1", func := "loop.example/g01009/laws.FnExactReasonCounts", spec := "fnExactReasonCounts", recurses := true, apart := false }
def FnExactReasonCountsSaid : Prop := fnExactReasonCountsRow.holds Try.pinned (OpenSpec.ofChange fnExactReasonCountsSpec)

/-- ITS FALSE NEIGHBOUR: 'it returns false'. Refute it at one input. -/
def fnExactReasonCountsWrong : ChangeSpec := { name := "fnExactReasonCounts", fn := fun _ => fun
  | [d1, d2, d3] => { results := [.lit (.bool false)], args := [d1, d2, d3] }
  | _ => none }
def FnExactReasonCountsWrongFalsely : Prop := fnExactReasonCountsRow.holds Try.pinned (OpenSpec.ofChange fnExactReasonCountsWrong)

/-- 'laws.FnExactFamilySign': WHATEVER THE INPUT: true; the input reads as it did. -/
def fnExactFamilySignSpec : ChangeSpec := { name := "fnExactFamilySign", fn := fun _ => fun
  | [d1, d2, d3, d4, d5, d6] => { results := [.lit (.bool true)], args := [d1, d2, d3, d4, d5, d6] }
  | _ => none }
def fnExactFamilySignRow : OpenClaim := { program := "ytnndolcjljhhcaa", sum := "cae29a0ed49da7eaab023facdf3758cd558376827f8235647d628026f81318d1", func := "loop.example/g01009/laws.FnExactFamilySign", spec := "fnExactFamilySign", unfollowed := true, recurses := true, apart := false }
def FnExactFamilySignSaid : Prop := fnExactFamilySignRow.holds Try.pinned (OpenSpec.ofChange fnExactFamilySignSpec)

/-- ITS FALSE NEIGHBOUR: 'it returns false'. Refute it at one input. -/
def fnExactFamilySignWrong : ChangeSpec := { name := "fnExactFamilySign", fn := fun _ => fun
  | [d1, d2, d3, d4, d5, d6] => { results := [.lit (.bool false)], args := [d1, d2, d3, d4, d5, d6] }
  | _ => none }
def FnExactFamilySignWrongFalsely : Prop := fnExactFamilySignRow.holds Try.pinned (OpenSpec.ofChange fnExactFamilySignWrong)

/-- 'laws.FnExactIsEntry': WHATEVER THE INPUT: true; the input reads as it did. -/
def fnExactIsEntrySpec : ChangeSpec := { name := "fnExactIsEntry", fn := fun _ => fun
  | [d] => { results := [.lit (.bool true)], args := [d] }
  | _ => none }
def fnExactIsEntryRow : OpenClaim := { program := "ytnndolcjljhhcaa", sum := "cae29a0ed49da7eaab023facdf3758cd558376827f8235647d628026f81318d1", func := "loop.example/g01009/laws.FnExactIsEntry", spec := "fnExactIsEntry", apart := false }
def FnExactIsEntrySaid : Prop := fnExactIsEntryRow.holds Try.pinned (OpenSpec.ofChange fnExactIsEntrySpec)

/-- ITS FALSE NEIGHBOUR: 'it returns false'. Refute it at one input. -/
def fnExactIsEntryWrong : ChangeSpec := { name := "fnExactIsEntry", fn := fun _ => fun
  | [d] => { results := [.lit (.bool false)], args := [d] }
  | _ => none }
def FnExactIsEntryWrongFalsely : Prop := fnExactIsEntryRow.holds Try.pinned (OpenSpec.ofChange fnExactIsEntryWrong)

/-- 'laws.FnExactSlopeSign': WHATEVER THE INPUT: true; the input reads as it did. -/
def fnExactSlopeSignSpec : ChangeSpec := { name := "fnExactSlopeSign", fn := fun _ => fun
  | [d1, d2, d3, d4, d5] => { results := [.lit (.bool true)], args := [d1, d2, d3, d4, d5] }
  | _ => none }
def fnExactSlopeSignRow : OpenClaim := { program := "ytnndolcjljhhcaa", sum := "cae29a0ed49da7eaab023facdf3758cd558376827f8235647d628026f81318d1", func := "loop.example/g01009/laws.FnExactSlopeSign", spec := "fnExactSlopeSign", unfollowed := true, recurses := true, apart := false }
def FnExactSlopeSignSaid : Prop := fnExactSlopeSignRow.holds Try.pinned (OpenSpec.ofChange fnExactSlopeSignSpec)

/-- ITS FALSE NEIGHBOUR: 'it returns false'. Refute it at one input. -/
def fnExactSlopeSignWrong : ChangeSpec := { name := "fnExactSlopeSign", fn := fun _ => fun
  | [d1, d2, d3, d4, d5] => { results := [.lit (.bool false)], args := [d1, d2, d3, d4, d5] }
  | _ => none }
def FnExactSlopeSignWrongFalsely : Prop := fnExactSlopeSignRow.holds Try.pinned (OpenSpec.ofChange fnExactSlopeSignWrong)

/-- 'laws.FnExactBoxesOf': WHATEVER THE INPUT: true; the input reads as it did. -/
def fnExactBoxesOfSpec : ChangeSpec := { name := "fnExactBoxesOf", fn := fun _ => fun
  | [d1, d2] => { results := [.lit (.bool true)], args := [d1, d2] }
  | _ => none }
def fnExactBoxesOfRow : OpenClaim := { program := "ytnndolcjljhhcaa", sum := "cae29a0ed49da7eaab023facdf3758cd558376827f8235647d628026f81318d1", func := "loop.example/g01009/laws.FnExactBoxesOf", spec := "fnExactBoxesOf", unfollowed := true, recurses := true, apart := false }
def FnExactBoxesOfSaid : Prop := fnExactBoxesOfRow.holds Try.pinned (OpenSpec.ofChange fnExactBoxesOfSpec)

/-- ITS FALSE NEIGHBOUR: 'it returns false'. Refute it at one input. -/
def fnExactBoxesOfWrong : ChangeSpec := { name := "fnExactBoxesOf", fn := fun _ => fun
  | [d1, d2] => { results := [.lit (.bool false)], args := [d1, d2] }
  | _ => none }
def FnExactBoxesOfWrongFalsely : Prop := fnExactBoxesOfRow.holds Try.pinned (OpenSpec.ofChange fnExactBoxesOfWrong)

/- THE SECOND FORM. 'bulk': how many values and letters a reading holds, each counted each time it is reached (what is shared counts as often as it is met; a slice's spare places count too). A statement '..UptoSaid' is the law's where the arguments, and the package variables that the reading takes, are together of bulk at most 1048576: NARROWER than '..Said'. Prove '..Said' where nothing that the law and all that it calls make is longer than what came in: it says more and counts as full. Else prove '..UptoSaid'. A law counts once. -/
mutual
def uptoBulk {H : Type} : DataW H → Nat
  | .lit (.string bytes) => bytes.length + 1
  | .lit _ => 1
  | .nil => 1
  | .ptr d => uptoBulk d + 1
  | .slice elems spare => uptoBulkAll elems + uptoBulkAll spare + 1
  | .agg parts => uptoBulkAll parts + 1
  | .iface _ d => uptoBulk d + 1
  | .map entries => uptoBulkEntries entries + 1
  | .held _ => 1
def uptoBulkAll {H : Type} : List (DataW H) → Nat
  | [] => 0
  | d :: r => uptoBulk d + uptoBulkAll r
def uptoBulkEntries {H : Type} : List (Lit × DataW H) → Nat
  | [] => 0
  | x :: r => uptoBulkEntry x + uptoBulkEntries r
def uptoBulkEntry {H : Type} : Lit × DataW H → Nat
  | (.string bytes, d) => bytes.length + uptoBulk d + 1
  | (_, d) => uptoBulk d + 1
 end
def uptoSmall : (H : Type) → List (DataW H) → Bool := fun _ ds => decide (uptoBulkAll ds ≤ 1048576)
def OpenSpec.upto (s : _root_.Go.ChangeSpec) : _root_.Go.OpenSpec := { _root_.Go.OpenSpec.ofChange s with cond := some uptoSmall }

/-- 'laws.FnExactFamilyAt', WHERE WHAT IT READS IS OF BULK AT MOST 1048576: true; the input reads as it did. -/
def fnExactFamilyAtUptoRow : OpenClaim := { program := "ytnndolcjljhhcaa", sum := "cae29a0ed49da7eaab023facdf3758cd558376827f8235647d628026f81318d1", func := "loop.example/g01009/laws.FnExactFamilyAt", spec := "fnExactFamilyAt", unfollowed := true, recurses := true, apart := false, narrowed := true }
def FnExactFamilyAtUptoSaid : Prop := fnExactFamilyAtUptoRow.holds Try.pinned (OpenSpec.upto fnExactFamilyAtSpec)

/-- 'laws.FnExactSubtreeAt', WHERE WHAT IT READS IS OF BULK AT MOST 1048576: true; the input reads as it did. -/
def fnExactSubtreeAtUptoRow : OpenClaim := { program := "ytnndolcjljhhcaa", sum := "cae29a0ed49da7eaab023facdf3758cd558376827f8235647d628026f81318d1", func := "loop.example/g01009/laws.FnExactSubtreeAt", spec := "fnExactSubtreeAt", recurses := true, apart := false, narrowed := true }
def FnExactSubtreeAtUptoSaid : Prop := fnExactSubtreeAtUptoRow.holds Try.pinned (OpenSpec.upto fnExactSubtreeAtSpec)

/-- 'laws.FnExactCountLeaves', WHERE WHAT IT READS IS OF BULK AT MOST 1048576: true; the input reads as it did. -/
def fnExactCountLeavesUptoRow : OpenClaim := { program := "ytnndolcjljhhcaa", sum := "cae29a0ed49da7eaab023facdf3758cd558376827f8235647d628026f81318d1", func := "loop.example/g01009/laws.FnExactCountLeaves", spec := "fnExactCountLeaves", recurses := true, apart := false, narrowed := true }
def FnExactCountLeavesUptoSaid : Prop := fnExactCountLeavesUptoRow.holds Try.pinned (OpenSpec.upto fnExactCountLeavesSpec)

/-- 'laws.FnExactLeafPlaces', WHERE WHAT IT READS IS OF BULK AT MOST 1048576: true; the input reads as it did. -/
def fnExactLeafPlacesUptoRow : OpenClaim := { program := "ytnndolcjljhhcaa", sum := "cae29a0ed49da7eaab023facdf3758cd558376827f8235647d628026f81318d1", func := "loop.example/g01009/laws.FnExactLeafPlaces", spec := "fnExactLeafPlaces", recurses := true, apart := false, narrowed := true }
def FnExactLeafPlacesUptoSaid : Prop := fnExactLeafPlacesUptoRow.holds Try.pinned (OpenSpec.upto fnExactLeafPlacesSpec)

/-- 'laws.FnExactReplaceLeaf', WHERE WHAT IT READS IS OF BULK AT MOST 1048576: true; the input reads as it did. -/
def fnExactReplaceLeafUptoRow : OpenClaim := { program := "ytnndolcjljhhcaa", sum := "cae29a0ed49da7eaab023facdf3758cd558376827f8235647d628026f81318d1", func := "loop.example/g01009/laws.FnExactReplaceLeaf", spec := "fnExactReplaceLeaf", recurses := true, apart := false, narrowed := true }
def FnExactReplaceLeafUptoSaid : Prop := fnExactReplaceLeafUptoRow.holds Try.pinned (OpenSpec.upto fnExactReplaceLeafSpec)

/-- 'laws.FnExactShortenTree', WHERE WHAT IT READS IS OF BULK AT MOST 1048576: true; the input reads as it did. -/
def fnExactShortenTreeUptoRow : OpenClaim := { program := "ytnndolcjljhhcaa", sum := "cae29a0ed49da7eaab023facdf3758cd558376827f8235647d628026f81318d1", func := "loop.example/g01009/laws.FnExactShortenTree", spec := "fnExactShortenTree", recurses := true, apart := false, narrowed := true }
def FnExactShortenTreeUptoSaid : Prop := fnExactShortenTreeUptoRow.holds Try.pinned (OpenSpec.upto fnExactShortenTreeSpec)

/-- 'laws.FnExactReasonCounts', WHERE WHAT IT READS IS OF BULK AT MOST 1048576: true; the input reads as it did. -/
def fnExactReasonCountsUptoRow : OpenClaim := { program := "ytnndolcjljhhcaa", sum := "cae29a0ed49da7eaab023facdf3758cd558376827f8235647d628026f81318d1", func := "loop.example/g01009/laws.FnExactReasonCounts", spec := "fnExactReasonCounts", recurses := true, apart := false, narrowed := true }
def FnExactReasonCountsUptoSaid : Prop := fnExactReasonCountsUptoRow.holds Try.pinned (OpenSpec.upto fnExactReasonCountsSpec)

/-- 'laws.FnExactFamilySign', WHERE WHAT IT READS IS OF BULK AT MOST 1048576: true; the input reads as it did. -/
def fnExactFamilySignUptoRow : OpenClaim := { program := "ytnndolcjljhhcaa", sum := "cae29a0ed49da7eaab023facdf3758cd558376827f8235647d628026f81318d1", func := "loop.example/g01009/laws.FnExactFamilySign", spec := "fnExactFamilySign", unfollowed := true, recurses := true, apart := false, narrowed := true }
def FnExactFamilySignUptoSaid : Prop := fnExactFamilySignUptoRow.holds Try.pinned (OpenSpec.upto fnExactFamilySignSpec)

/-- 'laws.FnExactIsEntry', WHERE WHAT IT READS IS OF BULK AT MOST 1048576: true; the input reads as it did. -/
def fnExactIsEntryUptoRow : OpenClaim := { program := "ytnndolcjljhhcaa", sum := "cae29a0ed49da7eaab023facdf3758cd558376827f8235647d628026f81318d1", func := "loop.example/g01009/laws.FnExactIsEntry", spec := "fnExactIsEntry", apart := false, narrowed := true }
def FnExactIsEntryUptoSaid : Prop := fnExactIsEntryUptoRow.holds Try.pinned (OpenSpec.upto fnExactIsEntrySpec)

/-- 'laws.FnExactSlopeSign', WHERE WHAT IT READS IS OF BULK AT MOST 1048576: true; the input reads as it did. -/
def fnExactSlopeSignUptoRow : OpenClaim := { program := "ytnndolcjljhhcaa", sum := "cae29a0ed49da7eaab023facdf3758cd558376827f8235647d628026f81318d1", func := "loop.example/g01009/laws.FnExactSlopeSign", spec := "fnExactSlopeSign", unfollowed := true, recurses := true, apart := false, narrowed := true }
def FnExactSlopeSignUptoSaid : Prop := fnExactSlopeSignUptoRow.holds Try.pinned (OpenSpec.upto fnExactSlopeSignSpec)

/-- 'laws.FnExactBoxesOf', WHERE WHAT IT READS IS OF BULK AT MOST 1048576: true; the input reads as it did. -/
def fnExactBoxesOfUptoRow : OpenClaim := { program := "ytnndolcjljhhcaa", sum := "cae29a0ed49da7eaab023facdf3758cd558376827f8235647d628026f81318d1", func := "loop.example/g01009/laws.FnExactBoxesOf", spec := "fnExactBoxesOf", unfollowed := true, recurses := true, apart := false, narrowed := true }
def FnExactBoxesOfUptoSaid : Prop := fnExactBoxesOfUptoRow.holds Try.pinned (OpenSpec.upto fnExactBoxesOfSpec)

end Rows
end Go.Proofs.Ytnndolcjljhhcaa
