/-
  No cell of these rows narrows 'for every input' (looked for: loops, veiled, ifaces, maps, wideKeys, modest, calm, conditions, laid).
  DERIVED. THE GIVEN ROWS OF THIS SEAT. 16 by the template 'for every input the law returns true; each argument reads behind the call as it read before'; 0 by the template 'total and deterministic' (their statements: YthodhcalknelcaaTotals.lean).
  GIVEN WITH THE SEED: the statements are not yours to turn. If you find one false, say at which input.
  Laid BY PROGRAM, IN A SANDBOX (cutbox-rows.mjs): the forced cells as the released guide's own fill.sh prints them over the translation 6b598596a82f76bf… (all of the seat's roots in one cut). By AI agents, Wed Nov 11 2026. No macro, syntax, notation, axiom, sorry.
-/
import Derived.Test.YthodhcalknelcaaChecked
import GoSem.Claim
import GoSem.ClaimJoined
import GoSem.ClaimMapViews
import Derived.JoinedTies
import Derived.KernelRfl
namespace Go.Proofs.Ythodhcalknelcaa
/- THE CELL 'sum', in the pinned program and in every row, IS THE sha256 OF THE DUMP (.gsa) THAT YthodhcalknelcaaProg.lean LOADS. Nothing in Lean hashes anything: it is a label: what it is worth is what the hold of that sum in a sandbox is worth. -/
noncomputable def Try.pinned : Pinned := { name := "ythodhcalknelcaa", sum := "6b598596a82f76bfef1068046f5683d16d905f780082a7785d76b10bbb6c6282", checked := Try.checked }
namespace Rows
def none {H : Type} : Left H := { results := [], args := [] }

/-- 'laws.FnExactSameLabels': WHATEVER THE INPUT: true; the input reads as it did. -/
def fnExactSameLabelsSpec : ChangeSpec := { name := "fnExactSameLabels", fn := fun _ => fun
  | [d1, d2] => { results := [.lit (.bool true)], args := [d1, d2] }
  | _ => none }
def fnExactSameLabelsRow : OpenClaim := { program := "ythodhcalknelcaa", sum := "6b598596a82f76bfef1068046f5683d16d905f780082a7785d76b10bbb6c6282", func := "loop.example/g03005/laws.FnExactSameLabels", spec := "fnExactSameLabels", apart := false }
def FnExactSameLabelsSaid : Prop := fnExactSameLabelsRow.holds Try.pinned (OpenSpec.ofChange fnExactSameLabelsSpec)

/-- ITS FALSE NEIGHBOUR: 'it returns false'. Refute it at one input. -/
def fnExactSameLabelsWrong : ChangeSpec := { name := "fnExactSameLabels", fn := fun _ => fun
  | [d1, d2] => { results := [.lit (.bool false)], args := [d1, d2] }
  | _ => none }
def FnExactSameLabelsWrongFalsely : Prop := fnExactSameLabelsRow.holds Try.pinned (OpenSpec.ofChange fnExactSameLabelsWrong)

/-- 'laws.FnExactRegionCells': WHATEVER THE INPUT: true; the input reads as it did. -/
def fnExactRegionCellsSpec : ChangeSpec := { name := "fnExactRegionCells", fn := fun _ => fun
  | [d1, d2] => { results := [.lit (.bool true)], args := [d1, d2] }
  | _ => none }
def fnExactRegionCellsRow : OpenClaim := { program := "ythodhcalknelcaa", sum := "6b598596a82f76bfef1068046f5683d16d905f780082a7785d76b10bbb6c6282", func := "loop.example/g03005/laws.FnExactRegionCells", spec := "fnExactRegionCells", apart := false }
def FnExactRegionCellsSaid : Prop := fnExactRegionCellsRow.holds Try.pinned (OpenSpec.ofChange fnExactRegionCellsSpec)

/-- ITS FALSE NEIGHBOUR: 'it returns false'. Refute it at one input. -/
def fnExactRegionCellsWrong : ChangeSpec := { name := "fnExactRegionCells", fn := fun _ => fun
  | [d1, d2] => { results := [.lit (.bool false)], args := [d1, d2] }
  | _ => none }
def FnExactRegionCellsWrongFalsely : Prop := fnExactRegionCellsRow.holds Try.pinned (OpenSpec.ofChange fnExactRegionCellsWrong)

/-- 'laws.FnExactRegionsOf': WHATEVER THE INPUT: true; the input reads as it did. -/
def fnExactRegionsOfSpec : ChangeSpec := { name := "fnExactRegionsOf", fn := fun _ => fun
  | [d] => { results := [.lit (.bool true)], args := [d] }
  | _ => none }
def fnExactRegionsOfRow : OpenClaim := { program := "ythodhcalknelcaa", sum := "6b598596a82f76bfef1068046f5683d16d905f780082a7785d76b10bbb6c6282", func := "loop.example/g03005/laws.FnExactRegionsOf", spec := "fnExactRegionsOf", apart := false }
def FnExactRegionsOfSaid : Prop := fnExactRegionsOfRow.holds Try.pinned (OpenSpec.ofChange fnExactRegionsOfSpec)

/-- ITS FALSE NEIGHBOUR: 'it returns false'. Refute it at one input. -/
def fnExactRegionsOfWrong : ChangeSpec := { name := "fnExactRegionsOf", fn := fun _ => fun
  | [d] => { results := [.lit (.bool false)], args := [d] }
  | _ => none }
def FnExactRegionsOfWrongFalsely : Prop := fnExactRegionsOfRow.holds Try.pinned (OpenSpec.ofChange fnExactRegionsOfWrong)

/-- 'laws.FnExactTakeLabel': WHATEVER THE INPUT: true; the input reads as it did. -/
def fnExactTakeLabelSpec : ChangeSpec := { name := "fnExactTakeLabel", fn := fun _ => fun
  | [d1, d2, d3] => { results := [.lit (.bool true)], args := [d1, d2, d3] }
  | _ => none }
def fnExactTakeLabelRow : OpenClaim := { program := "ythodhcalknelcaa", sum := "6b598596a82f76bfef1068046f5683d16d905f780082a7785d76b10bbb6c6282", func := "loop.example/g03005/laws.FnExactTakeLabel", spec := "fnExactTakeLabel", apart := false }
def FnExactTakeLabelSaid : Prop := fnExactTakeLabelRow.holds Try.pinned (OpenSpec.ofChange fnExactTakeLabelSpec)

/-- ITS FALSE NEIGHBOUR: 'it returns false'. Refute it at one input. -/
def fnExactTakeLabelWrong : ChangeSpec := { name := "fnExactTakeLabel", fn := fun _ => fun
  | [d1, d2, d3] => { results := [.lit (.bool false)], args := [d1, d2, d3] }
  | _ => none }
def FnExactTakeLabelWrongFalsely : Prop := fnExactTakeLabelRow.holds Try.pinned (OpenSpec.ofChange fnExactTakeLabelWrong)

/-- 'laws.FnExactSmallestRegion': WHATEVER THE INPUT: true; the input reads as it did. -/
def fnExactSmallestRegionSpec : ChangeSpec := { name := "fnExactSmallestRegion", fn := fun _ => fun
  | [d1, d2] => { results := [.lit (.bool true)], args := [d1, d2] }
  | _ => none }
def fnExactSmallestRegionRow : OpenClaim := { program := "ythodhcalknelcaa", sum := "6b598596a82f76bfef1068046f5683d16d905f780082a7785d76b10bbb6c6282", func := "loop.example/g03005/laws.FnExactSmallestRegion", spec := "fnExactSmallestRegion", apart := false }
def FnExactSmallestRegionSaid : Prop := fnExactSmallestRegionRow.holds Try.pinned (OpenSpec.ofChange fnExactSmallestRegionSpec)

/-- ITS FALSE NEIGHBOUR: 'it returns false'. Refute it at one input. -/
def fnExactSmallestRegionWrong : ChangeSpec := { name := "fnExactSmallestRegion", fn := fun _ => fun
  | [d1, d2] => { results := [.lit (.bool false)], args := [d1, d2] }
  | _ => none }
def FnExactSmallestRegionWrongFalsely : Prop := fnExactSmallestRegionRow.holds Try.pinned (OpenSpec.ofChange fnExactSmallestRegionWrong)

/-- 'laws.FnExactCountTints': WHATEVER THE INPUT: true; the input reads as it did. -/
def fnExactCountTintsSpec : ChangeSpec := { name := "fnExactCountTints", fn := fun _ => fun
  | [d] => { results := [.lit (.bool true)], args := [d] }
  | _ => none }
def fnExactCountTintsRow : OpenClaim := { program := "ythodhcalknelcaa", sum := "6b598596a82f76bfef1068046f5683d16d905f780082a7785d76b10bbb6c6282", func := "loop.example/g03005/laws.FnExactCountTints", spec := "fnExactCountTints", recurses := true, apart := false }
def FnExactCountTintsSaid : Prop := fnExactCountTintsRow.holds Try.pinned (OpenSpec.ofChange fnExactCountTintsSpec)

/-- ITS FALSE NEIGHBOUR: 'it returns false'. Refute it at one input. -/
def fnExactCountTintsWrong : ChangeSpec := { name := "fnExactCountTints", fn := fun _ => fun
  | [d] => { results := [.lit (.bool false)], args := [d] }
  | _ => none }
def FnExactCountTintsWrongFalsely : Prop := fnExactCountTintsRow.holds Try.pinned (OpenSpec.ofChange fnExactCountTintsWrong)

/-- 'laws.FnExactNeighbours': WHATEVER THE INPUT: true; the input reads as it did. -/
def fnExactNeighboursSpec : ChangeSpec := { name := "fnExactNeighbours", fn := fun _ => fun
  | [d1, d2] => { results := [.lit (.bool true)], args := [d1, d2] }
  | _ => none }
def fnExactNeighboursRow : OpenClaim := { program := "ythodhcalknelcaa", sum := "6b598596a82f76bfef1068046f5683d16d905f780082a7785d76b10bbb6c6282", func := "loop.example/g03005/laws.FnExactNeighbours", spec := "fnExactNeighbours", recurses := true, apart := false }
def FnExactNeighboursSaid : Prop := fnExactNeighboursRow.holds Try.pinned (OpenSpec.ofChange fnExactNeighboursSpec)

/-- ITS FALSE NEIGHBOUR: 'it returns false'. Refute it at one input. -/
def fnExactNeighboursWrong : ChangeSpec := { name := "fnExactNeighbours", fn := fun _ => fun
  | [d1, d2] => { results := [.lit (.bool false)], args := [d1, d2] }
  | _ => none }
def FnExactNeighboursWrongFalsely : Prop := fnExactNeighboursRow.holds Try.pinned (OpenSpec.ofChange fnExactNeighboursWrong)

/-- 'laws.FnExactMostNeighbours': WHATEVER THE INPUT: true; the input reads as it did. -/
def fnExactMostNeighboursSpec : ChangeSpec := { name := "fnExactMostNeighbours", fn := fun _ => fun
  | [d] => { results := [.lit (.bool true)], args := [d] }
  | _ => none }
def fnExactMostNeighboursRow : OpenClaim := { program := "ythodhcalknelcaa", sum := "6b598596a82f76bfef1068046f5683d16d905f780082a7785d76b10bbb6c6282", func := "loop.example/g03005/laws.FnExactMostNeighbours", spec := "fnExactMostNeighbours", recurses := true, apart := false }
def FnExactMostNeighboursSaid : Prop := fnExactMostNeighboursRow.holds Try.pinned (OpenSpec.ofChange fnExactMostNeighboursSpec)

/-- ITS FALSE NEIGHBOUR: 'it returns false'. Refute it at one input. -/
def fnExactMostNeighboursWrong : ChangeSpec := { name := "fnExactMostNeighbours", fn := fun _ => fun
  | [d] => { results := [.lit (.bool false)], args := [d] }
  | _ => none }
def FnExactMostNeighboursWrongFalsely : Prop := fnExactMostNeighboursRow.holds Try.pinned (OpenSpec.ofChange fnExactMostNeighboursWrong)

/-- 'laws.FnExactLongestNeighbour': WHATEVER THE INPUT: true; the input reads as it did. -/
def fnExactLongestNeighbourSpec : ChangeSpec := { name := "fnExactLongestNeighbour", fn := fun _ => fun
  | [d1, d2] => { results := [.lit (.bool true)], args := [d1, d2] }
  | _ => none }
def fnExactLongestNeighbourRow : OpenClaim := { program := "ythodhcalknelcaa", sum := "6b598596a82f76bfef1068046f5683d16d905f780082a7785d76b10bbb6c6282", func := "loop.example/g03005/laws.FnExactLongestNeighbour", spec := "fnExactLongestNeighbour", recurses := true, apart := false }
def FnExactLongestNeighbourSaid : Prop := fnExactLongestNeighbourRow.holds Try.pinned (OpenSpec.ofChange fnExactLongestNeighbourSpec)

/-- ITS FALSE NEIGHBOUR: 'it returns false'. Refute it at one input. -/
def fnExactLongestNeighbourWrong : ChangeSpec := { name := "fnExactLongestNeighbour", fn := fun _ => fun
  | [d1, d2] => { results := [.lit (.bool false)], args := [d1, d2] }
  | _ => none }
def FnExactLongestNeighbourWrongFalsely : Prop := fnExactLongestNeighbourRow.holds Try.pinned (OpenSpec.ofChange fnExactLongestNeighbourWrong)

/-- 'laws.FnTints': WHATEVER THE INPUT: true; the input reads as it did. -/
def fnTintsSpec : ChangeSpec := { name := "fnTints", fn := fun _ => fun
  | [d] => { results := [.lit (.bool true)], args := [d] }
  | _ => none }
def fnTintsRow : OpenClaim := { program := "ythodhcalknelcaa", sum := "6b598596a82f76bfef1068046f5683d16d905f780082a7785d76b10bbb6c6282", func := "loop.example/g03005/laws.FnTints", spec := "fnTints", recurses := true, apart := false }
def FnTintsSaid : Prop := fnTintsRow.holds Try.pinned (OpenSpec.ofChange fnTintsSpec)

/-- ITS FALSE NEIGHBOUR: 'it returns false'. Refute it at one input. -/
def fnTintsWrong : ChangeSpec := { name := "fnTints", fn := fun _ => fun
  | [d] => { results := [.lit (.bool false)], args := [d] }
  | _ => none }
def FnTintsWrongFalsely : Prop := fnTintsRow.holds Try.pinned (OpenSpec.ofChange fnTintsWrong)

/-- 'laws.FnExactAreTints': WHATEVER THE INPUT: true; the input reads as it did. -/
def fnExactAreTintsSpec : ChangeSpec := { name := "fnExactAreTints", fn := fun _ => fun
  | [d1, d2] => { results := [.lit (.bool true)], args := [d1, d2] }
  | _ => none }
def fnExactAreTintsRow : OpenClaim := { program := "ythodhcalknelcaa", sum := "6b598596a82f76bfef1068046f5683d16d905f780082a7785d76b10bbb6c6282", func := "loop.example/g03005/laws.FnExactAreTints", spec := "fnExactAreTints", recurses := true, apart := false }
def FnExactAreTintsSaid : Prop := fnExactAreTintsRow.holds Try.pinned (OpenSpec.ofChange fnExactAreTintsSpec)

/-- ITS FALSE NEIGHBOUR: 'it returns false'. Refute it at one input. -/
def fnExactAreTintsWrong : ChangeSpec := { name := "fnExactAreTints", fn := fun _ => fun
  | [d1, d2] => { results := [.lit (.bool false)], args := [d1, d2] }
  | _ => none }
def FnExactAreTintsWrongFalsely : Prop := fnExactAreTintsRow.holds Try.pinned (OpenSpec.ofChange fnExactAreTintsWrong)

/-- 'laws.FnCovers': WHATEVER THE INPUT: true; the input reads as it did. -/
def fnCoversSpec : ChangeSpec := { name := "fnCovers", fn := fun _ => fun
  | [d] => { results := [.lit (.bool true)], args := [d] }
  | _ => none }
def fnCoversRow : OpenClaim := { program := "ythodhcalknelcaa", sum := "6b598596a82f76bfef1068046f5683d16d905f780082a7785d76b10bbb6c6282", func := "loop.example/g03005/laws.FnCovers", spec := "fnCovers", recurses := true, apart := false }
def FnCoversSaid : Prop := fnCoversRow.holds Try.pinned (OpenSpec.ofChange fnCoversSpec)

/-- ITS FALSE NEIGHBOUR: 'it returns false'. Refute it at one input. -/
def fnCoversWrong : ChangeSpec := { name := "fnCovers", fn := fun _ => fun
  | [d] => { results := [.lit (.bool false)], args := [d] }
  | _ => none }
def FnCoversWrongFalsely : Prop := fnCoversRow.holds Try.pinned (OpenSpec.ofChange fnCoversWrong)

/-- 'laws.FnExactTintsOf': WHATEVER THE INPUT: true; the input reads as it did. -/
def fnExactTintsOfSpec : ChangeSpec := { name := "fnExactTintsOf", fn := fun _ => fun
  | [d] => { results := [.lit (.bool true)], args := [d] }
  | _ => none }
def fnExactTintsOfRow : OpenClaim := { program := "ythodhcalknelcaa", sum := "6b598596a82f76bfef1068046f5683d16d905f780082a7785d76b10bbb6c6282", func := "loop.example/g03005/laws.FnExactTintsOf", spec := "fnExactTintsOf", recurses := true, apart := false }
def FnExactTintsOfSaid : Prop := fnExactTintsOfRow.holds Try.pinned (OpenSpec.ofChange fnExactTintsOfSpec)

/-- ITS FALSE NEIGHBOUR: 'it returns false'. Refute it at one input. -/
def fnExactTintsOfWrong : ChangeSpec := { name := "fnExactTintsOf", fn := fun _ => fun
  | [d] => { results := [.lit (.bool false)], args := [d] }
  | _ => none }
def FnExactTintsOfWrongFalsely : Prop := fnExactTintsOfRow.holds Try.pinned (OpenSpec.ofChange fnExactTintsOfWrong)

/-- 'laws.FnExactTintOf': WHATEVER THE INPUT: true; the input reads as it did. -/
def fnExactTintOfSpec : ChangeSpec := { name := "fnExactTintOf", fn := fun _ => fun
  | [d1, d2] => { results := [.lit (.bool true)], args := [d1, d2] }
  | _ => none }
def fnExactTintOfRow : OpenClaim := { program := "ythodhcalknelcaa", sum := "6b598596a82f76bfef1068046f5683d16d905f780082a7785d76b10bbb6c6282", func := "loop.example/g03005/laws.FnExactTintOf", spec := "fnExactTintOf", recurses := true, apart := false }
def FnExactTintOfSaid : Prop := fnExactTintOfRow.holds Try.pinned (OpenSpec.ofChange fnExactTintOfSpec)

/-- ITS FALSE NEIGHBOUR: 'it returns false'. Refute it at one input. -/
def fnExactTintOfWrong : ChangeSpec := { name := "fnExactTintOf", fn := fun _ => fun
  | [d1, d2] => { results := [.lit (.bool false)], args := [d1, d2] }
  | _ => none }
def FnExactTintOfWrongFalsely : Prop := fnExactTintOfRow.holds Try.pinned (OpenSpec.ofChange fnExactTintOfWrong)

/-- 'laws.FnMerged': WHATEVER THE INPUT: true; the input reads as it did. -/
def fnMergedSpec : ChangeSpec := { name := "fnMerged", fn := fun _ => fun
  | [d] => { results := [.lit (.bool true)], args := [d] }
  | _ => none }
def fnMergedRow : OpenClaim := { program := "ythodhcalknelcaa", sum := "6b598596a82f76bfef1068046f5683d16d905f780082a7785d76b10bbb6c6282", func := "loop.example/g03005/laws.FnMerged", spec := "fnMerged", recurses := true, apart := false }
def FnMergedSaid : Prop := fnMergedRow.holds Try.pinned (OpenSpec.ofChange fnMergedSpec)

/-- ITS FALSE NEIGHBOUR: 'it returns false'. Refute it at one input. -/
def fnMergedWrong : ChangeSpec := { name := "fnMerged", fn := fun _ => fun
  | [d] => { results := [.lit (.bool false)], args := [d] }
  | _ => none }
def FnMergedWrongFalsely : Prop := fnMergedRow.holds Try.pinned (OpenSpec.ofChange fnMergedWrong)

/-- 'laws.FnExactMergeSmall': WHATEVER THE INPUT: true; the input reads as it did. -/
def fnExactMergeSmallSpec : ChangeSpec := { name := "fnExactMergeSmall", fn := fun _ => fun
  | [d1, d2] => { results := [.lit (.bool true)], args := [d1, d2] }
  | _ => none }
def fnExactMergeSmallRow : OpenClaim := { program := "ythodhcalknelcaa", sum := "6b598596a82f76bfef1068046f5683d16d905f780082a7785d76b10bbb6c6282", func := "loop.example/g03005/laws.FnExactMergeSmall", spec := "fnExactMergeSmall", recurses := true, apart := false }
def FnExactMergeSmallSaid : Prop := fnExactMergeSmallRow.holds Try.pinned (OpenSpec.ofChange fnExactMergeSmallSpec)

/-- ITS FALSE NEIGHBOUR: 'it returns false'. Refute it at one input. -/
def fnExactMergeSmallWrong : ChangeSpec := { name := "fnExactMergeSmall", fn := fun _ => fun
  | [d1, d2] => { results := [.lit (.bool false)], args := [d1, d2] }
  | _ => none }
def FnExactMergeSmallWrongFalsely : Prop := fnExactMergeSmallRow.holds Try.pinned (OpenSpec.ofChange fnExactMergeSmallWrong)

/- THE SECOND FORM. 'bulk': how many values and letters a reading holds, each counted each time it is reached (what is shared counts as often as it is met; a slice's spare places count too). A statement '..UptoSaid' is the law's where the arguments, and the package variables that the reading takes, are together of bulk at most 1048576: NARROWER than '..Said'. Prove '..Said' where nothing that the law and all that it calls make is longer than what came in: it says more and counts as full. Else prove '..UptoSaid'. A law counts once. -/
mutual
def uptoBulk {H : Type} : DataW H → Nat
  | .lit (.string bytes) => bytes.length + 1
  | .lit _ => 1
  | .nil => 1
  | .ptr d => uptoBulk d + 1
  | .slice elems spare => uptoBulkAll elems + uptoBulkAll spare + 1
  | .agg parts => uptoBulkAll parts + 1
  | .iface _ d => uptoBulk d + 1
  | .map entries => uptoBulkEntries entries + 1
  | .held _ => 1
def uptoBulkAll {H : Type} : List (DataW H) → Nat
  | [] => 0
  | d :: r => uptoBulk d + uptoBulkAll r
def uptoBulkEntries {H : Type} : List (Lit × DataW H) → Nat
  | [] => 0
  | x :: r => uptoBulkEntry x + uptoBulkEntries r
def uptoBulkEntry {H : Type} : Lit × DataW H → Nat
  | (.string bytes, d) => bytes.length + uptoBulk d + 1
  | (_, d) => uptoBulk d + 1
 end
def uptoSmall : (H : Type) → List (DataW H) → Bool := fun _ ds => decide (uptoBulkAll ds ≤ 1048576)
def OpenSpec.upto (s : _root_.Go.ChangeSpec) : _root_.Go.OpenSpec := { _root_.Go.OpenSpec.ofChange s with cond := some uptoSmall }

/-- 'laws.FnExactSameLabels', WHERE WHAT IT READS IS OF BULK AT MOST 1048576: true; the input reads as it did. -/
def fnExactSameLabelsUptoRow : OpenClaim := { program := "ythodhcalknelcaa", sum := "6b598596a82f76bfef1068046f5683d16d905f780082a7785d76b10bbb6c6282", func := "loop.example/g03005/laws.FnExactSameLabels", spec := "fnExactSameLabels", apart := false, narrowed := true }
def FnExactSameLabelsUptoSaid : Prop := fnExactSameLabelsUptoRow.holds Try.pinned (OpenSpec.upto fnExactSameLabelsSpec)

/-- 'laws.FnExactRegionCells', WHERE WHAT IT READS IS OF BULK AT MOST 1048576: true; the input reads as it did. -/
def fnExactRegionCellsUptoRow : OpenClaim := { program := "ythodhcalknelcaa", sum := "6b598596a82f76bfef1068046f5683d16d905f780082a7785d76b10bbb6c6282", func := "loop.example/g03005/laws.FnExactRegionCells", spec := "fnExactRegionCells", apart := false, narrowed := true }
def FnExactRegionCellsUptoSaid : Prop := fnExactRegionCellsUptoRow.holds Try.pinned (OpenSpec.upto fnExactRegionCellsSpec)

/-- 'laws.FnExactRegionsOf', WHERE WHAT IT READS IS OF BULK AT MOST 1048576: true; the input reads as it did. -/
def fnExactRegionsOfUptoRow : OpenClaim := { program := "ythodhcalknelcaa", sum := "6b598596a82f76bfef1068046f5683d16d905f780082a7785d76b10bbb6c6282", func := "loop.example/g03005/laws.FnExactRegionsOf", spec := "fnExactRegionsOf", apart := false, narrowed := true }
def FnExactRegionsOfUptoSaid : Prop := fnExactRegionsOfUptoRow.holds Try.pinned (OpenSpec.upto fnExactRegionsOfSpec)

/-- 'laws.FnExactTakeLabel', WHERE WHAT IT READS IS OF BULK AT MOST 1048576: true; the input reads as it did. -/
def fnExactTakeLabelUptoRow : OpenClaim := { program := "ythodhcalknelcaa", sum := "6b598596a82f76bfef1068046f5683d16d905f780082a7785d76b10bbb6c6282", func := "loop.example/g03005/laws.FnExactTakeLabel", spec := "fnExactTakeLabel", apart := false, narrowed := true }
def FnExactTakeLabelUptoSaid : Prop := fnExactTakeLabelUptoRow.holds Try.pinned (OpenSpec.upto fnExactTakeLabelSpec)

/-- 'laws.FnExactSmallestRegion', WHERE WHAT IT READS IS OF BULK AT MOST 1048576: true; the input reads as it did. -/
def fnExactSmallestRegionUptoRow : OpenClaim := { program := "ythodhcalknelcaa", sum := "6b598596a82f76bfef1068046f5683d16d905f780082a7785d76b10bbb6c6282", func := "loop.example/g03005/laws.FnExactSmallestRegion", spec := "fnExactSmallestRegion", apart := false, narrowed := true }
def FnExactSmallestRegionUptoSaid : Prop := fnExactSmallestRegionUptoRow.holds Try.pinned (OpenSpec.upto fnExactSmallestRegionSpec)

/-- 'laws.FnExactCountTints', WHERE WHAT IT READS IS OF BULK AT MOST 1048576: true; the input reads as it did. -/
def fnExactCountTintsUptoRow : OpenClaim := { program := "ythodhcalknelcaa", sum := "6b598596a82f76bfef1068046f5683d16d905f780082a7785d76b10bbb6c6282", func := "loop.example/g03005/laws.FnExactCountTints", spec := "fnExactCountTints", recurses := true, apart := false, narrowed := true }
def FnExactCountTintsUptoSaid : Prop := fnExactCountTintsUptoRow.holds Try.pinned (OpenSpec.upto fnExactCountTintsSpec)

/-- 'laws.FnExactNeighbours', WHERE WHAT IT READS IS OF BULK AT MOST 1048576: true; the input reads as it did. -/
def fnExactNeighboursUptoRow : OpenClaim := { program := "ythodhcalknelcaa", sum := "6b598596a82f76bfef1068046f5683d16d905f780082a7785d76b10bbb6c6282", func := "loop.example/g03005/laws.FnExactNeighbours", spec := "fnExactNeighbours", recurses := true, apart := false, narrowed := true }
def FnExactNeighboursUptoSaid : Prop := fnExactNeighboursUptoRow.holds Try.pinned (OpenSpec.upto fnExactNeighboursSpec)

/-- 'laws.FnExactMostNeighbours', WHERE WHAT IT READS IS OF BULK AT MOST 1048576: true; the input reads as it did. -/
def fnExactMostNeighboursUptoRow : OpenClaim := { program := "ythodhcalknelcaa", sum := "6b598596a82f76bfef1068046f5683d16d905f780082a7785d76b10bbb6c6282", func := "loop.example/g03005/laws.FnExactMostNeighbours", spec := "fnExactMostNeighbours", recurses := true, apart := false, narrowed := true }
def FnExactMostNeighboursUptoSaid : Prop := fnExactMostNeighboursUptoRow.holds Try.pinned (OpenSpec.upto fnExactMostNeighboursSpec)

/-- 'laws.FnExactLongestNeighbour', WHERE WHAT IT READS IS OF BULK AT MOST 1048576: true; the input reads as it did. -/
def fnExactLongestNeighbourUptoRow : OpenClaim := { program := "ythodhcalknelcaa", sum := "6b598596a82f76bfef1068046f5683d16d905f780082a7785d76b10bbb6c6282", func := "loop.example/g03005/laws.FnExactLongestNeighbour", spec := "fnExactLongestNeighbour", recurses := true, apart := false, narrowed := true }
def FnExactLongestNeighbourUptoSaid : Prop := fnExactLongestNeighbourUptoRow.holds Try.pinned (OpenSpec.upto fnExactLongestNeighbourSpec)

/-- 'laws.FnTints', WHERE WHAT IT READS IS OF BULK AT MOST 1048576: true; the input reads as it did. -/
def fnTintsUptoRow : OpenClaim := { program := "ythodhcalknelcaa", sum := "6b598596a82f76bfef1068046f5683d16d905f780082a7785d76b10bbb6c6282", func := "loop.example/g03005/laws.FnTints", spec := "fnTints", recurses := true, apart := false, narrowed := true }
def FnTintsUptoSaid : Prop := fnTintsUptoRow.holds Try.pinned (OpenSpec.upto fnTintsSpec)

/-- 'laws.FnExactAreTints', WHERE WHAT IT READS IS OF BULK AT MOST 1048576: true; the input reads as it did. -/
def fnExactAreTintsUptoRow : OpenClaim := { program := "ythodhcalknelcaa", sum := "6b598596a82f76bfef1068046f5683d16d905f780082a7785d76b10bbb6c6282", func := "loop.example/g03005/laws.FnExactAreTints", spec := "fnExactAreTints", recurses := true, apart := false, narrowed := true }
def FnExactAreTintsUptoSaid : Prop := fnExactAreTintsUptoRow.holds Try.pinned (OpenSpec.upto fnExactAreTintsSpec)

/-- 'laws.FnCovers', WHERE WHAT IT READS IS OF BULK AT MOST 1048576: true; the input reads as it did. -/
def fnCoversUptoRow : OpenClaim := { program := "ythodhcalknelcaa", sum := "6b598596a82f76bfef1068046f5683d16d905f780082a7785d76b10bbb6c6282", func := "loop.example/g03005/laws.FnCovers", spec := "fnCovers", recurses := true, apart := false, narrowed := true }
def FnCoversUptoSaid : Prop := fnCoversUptoRow.holds Try.pinned (OpenSpec.upto fnCoversSpec)

/-- 'laws.FnExactTintsOf', WHERE WHAT IT READS IS OF BULK AT MOST 1048576: true; the input reads as it did. -/
def fnExactTintsOfUptoRow : OpenClaim := { program := "ythodhcalknelcaa", sum := "6b598596a82f76bfef1068046f5683d16d905f780082a7785d76b10bbb6c6282", func := "loop.example/g03005/laws.FnExactTintsOf", spec := "fnExactTintsOf", recurses := true, apart := false, narrowed := true }
def FnExactTintsOfUptoSaid : Prop := fnExactTintsOfUptoRow.holds Try.pinned (OpenSpec.upto fnExactTintsOfSpec)

/-- 'laws.FnExactTintOf', WHERE WHAT IT READS IS OF BULK AT MOST 1048576: true; the input reads as it did. -/
def fnExactTintOfUptoRow : OpenClaim := { program := "ythodhcalknelcaa", sum := "6b598596a82f76bfef1068046f5683d16d905f780082a7785d76b10bbb6c6282", func := "loop.example/g03005/laws.FnExactTintOf", spec := "fnExactTintOf", recurses := true, apart := false, narrowed := true }
def FnExactTintOfUptoSaid : Prop := fnExactTintOfUptoRow.holds Try.pinned (OpenSpec.upto fnExactTintOfSpec)

/-- 'laws.FnMerged', WHERE WHAT IT READS IS OF BULK AT MOST 1048576: true; the input reads as it did. -/
def fnMergedUptoRow : OpenClaim := { program := "ythodhcalknelcaa", sum := "6b598596a82f76bfef1068046f5683d16d905f780082a7785d76b10bbb6c6282", func := "loop.example/g03005/laws.FnMerged", spec := "fnMerged", recurses := true, apart := false, narrowed := true }
def FnMergedUptoSaid : Prop := fnMergedUptoRow.holds Try.pinned (OpenSpec.upto fnMergedSpec)

/-- 'laws.FnExactMergeSmall', WHERE WHAT IT READS IS OF BULK AT MOST 1048576: true; the input reads as it did. -/
def fnExactMergeSmallUptoRow : OpenClaim := { program := "ythodhcalknelcaa", sum := "6b598596a82f76bfef1068046f5683d16d905f780082a7785d76b10bbb6c6282", func := "loop.example/g03005/laws.FnExactMergeSmall", spec := "fnExactMergeSmall", recurses := true, apart := false, narrowed := true }
def FnExactMergeSmallUptoSaid : Prop := fnExactMergeSmallUptoRow.holds Try.pinned (OpenSpec.upto fnExactMergeSmallSpec)

end Rows
end Go.Proofs.Ythodhcalknelcaa
