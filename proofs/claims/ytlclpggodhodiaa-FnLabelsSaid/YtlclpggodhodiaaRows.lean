/-
  No cell of these rows narrows 'for every input' (looked for: loops, veiled, ifaces, maps, wideKeys, modest, calm, conditions, laid).
  DERIVED. THE GIVEN ROWS OF THIS SEAT. 14 by the template 'for every input the law returns true; each argument reads behind the call as it read before'; 0 by the template 'total and deterministic' (their statements: YtlclpggodhodiaaTotals.lean).
  GIVEN WITH THE SEED: the statements are not yours to turn. If you find one false, say at which input.
  Laid BY PROGRAM, IN A SANDBOX (cutbox-rows.mjs): the forced cells as the released guide's own fill.sh prints them over the translation 8f524f189f5b8fbc… (all of the seat's roots in one cut). By AI agents, Wed Nov 11 2026. No macro, syntax, notation, axiom, sorry.
-/
import Derived.Test.YtlclpggodhodiaaChecked
import GoSem.Claim
import GoSem.ClaimJoined
import GoSem.ClaimMapViews
import Derived.JoinedTies
import Derived.KernelRfl
namespace Go.Proofs.Ytlclpggodhodiaa
/- THE CELL 'sum', in the pinned program and in every row, IS THE sha256 OF THE DUMP (.gsa) THAT YtlclpggodhodiaaProg.lean LOADS. Nothing in Lean hashes anything: it is a label: what it is worth is what the hold of that sum in a sandbox is worth. -/
noncomputable def Try.pinned : Pinned := { name := "ytlclpggodhodiaa", sum := "8f524f189f5b8fbcd65553772ed0afdb35c2ef5821716f0e50c3cfbb53a51607", checked := Try.checked }
namespace Rows
def none {H : Type} : Left H := { results := [], args := [] }

/-- 'laws.FnExactCornerName': WHATEVER THE INPUT: true; the input reads as it did. -/
def fnExactCornerNameSpec : ChangeSpec := { name := "fnExactCornerName", fn := fun _ => fun
  | [d] => { results := [.lit (.bool true)], args := [d] }
  | _ => none }
def fnExactCornerNameRow : OpenClaim := { program := "ytlclpggodhodiaa", sum := "8f524f189f5b8fbcd65553772ed0afdb35c2ef5821716f0e50c3cfbb53a51607", func := "loop.example/g03005/laws.FnExactCornerName", spec := "fnExactCornerName", apart := false }
def FnExactCornerNameSaid : Prop := fnExactCornerNameRow.holds Try.pinned (OpenSpec.ofChange fnExactCornerNameSpec)

/-- ITS FALSE NEIGHBOUR: 'it returns false'. Refute it at one input. -/
def fnExactCornerNameWrong : ChangeSpec := { name := "fnExactCornerName", fn := fun _ => fun
  | [d] => { results := [.lit (.bool false)], args := [d] }
  | _ => none }
def FnExactCornerNameWrongFalsely : Prop := fnExactCornerNameRow.holds Try.pinned (OpenSpec.ofChange fnExactCornerNameWrong)

/-- 'laws.FnExactIsLevel': WHATEVER THE INPUT: true; the input reads as it did. -/
def fnExactIsLevelSpec : ChangeSpec := { name := "fnExactIsLevel", fn := fun _ => fun
  | [d] => { results := [.lit (.bool true)], args := [d] }
  | _ => none }
def fnExactIsLevelRow : OpenClaim := { program := "ytlclpggodhodiaa", sum := "8f524f189f5b8fbcd65553772ed0afdb35c2ef5821716f0e50c3cfbb53a51607", func := "loop.example/g03005/laws.FnExactIsLevel", spec := "fnExactIsLevel", apart := false }
def FnExactIsLevelSaid : Prop := fnExactIsLevelRow.holds Try.pinned (OpenSpec.ofChange fnExactIsLevelSpec)

/-- ITS FALSE NEIGHBOUR: 'it returns false'. Refute it at one input. -/
def fnExactIsLevelWrong : ChangeSpec := { name := "fnExactIsLevel", fn := fun _ => fun
  | [d] => { results := [.lit (.bool false)], args := [d] }
  | _ => none }
def FnExactIsLevelWrongFalsely : Prop := fnExactIsLevelRow.holds Try.pinned (OpenSpec.ofChange fnExactIsLevelWrong)

/-- 'laws.FnExactTileOf': WHATEVER THE INPUT: true; the input reads as it did. -/
def fnExactTileOfSpec : ChangeSpec := { name := "fnExactTileOf", fn := fun _ => fun
  | [d] => { results := [.lit (.bool true)], args := [d] }
  | _ => none }
def fnExactTileOfRow : OpenClaim := { program := "ytlclpggodhodiaa", sum := "8f524f189f5b8fbcd65553772ed0afdb35c2ef5821716f0e50c3cfbb53a51607", func := "loop.example/g03005/laws.FnExactTileOf", spec := "fnExactTileOf", apart := false }
def FnExactTileOfSaid : Prop := fnExactTileOfRow.holds Try.pinned (OpenSpec.ofChange fnExactTileOfSpec)

/-- ITS FALSE NEIGHBOUR: 'it returns false'. Refute it at one input. -/
def fnExactTileOfWrong : ChangeSpec := { name := "fnExactTileOf", fn := fun _ => fun
  | [d] => { results := [.lit (.bool false)], args := [d] }
  | _ => none }
def FnExactTileOfWrongFalsely : Prop := fnExactTileOfRow.holds Try.pinned (OpenSpec.ofChange fnExactTileOfWrong)

/-- 'laws.FnExactNameWidth': WHATEVER THE INPUT: true; the input reads as it did. -/
def fnExactNameWidthSpec : ChangeSpec := { name := "fnExactNameWidth", fn := fun _ => fun
  | [d] => { results := [.lit (.bool true)], args := [d] }
  | _ => none }
def fnExactNameWidthRow : OpenClaim := { program := "ytlclpggodhodiaa", sum := "8f524f189f5b8fbcd65553772ed0afdb35c2ef5821716f0e50c3cfbb53a51607", func := "loop.example/g03005/laws.FnExactNameWidth", spec := "fnExactNameWidth", apart := false }
def FnExactNameWidthSaid : Prop := fnExactNameWidthRow.holds Try.pinned (OpenSpec.ofChange fnExactNameWidthSpec)

/-- ITS FALSE NEIGHBOUR: 'it returns false'. Refute it at one input. -/
def fnExactNameWidthWrong : ChangeSpec := { name := "fnExactNameWidth", fn := fun _ => fun
  | [d] => { results := [.lit (.bool false)], args := [d] }
  | _ => none }
def FnExactNameWidthWrongFalsely : Prop := fnExactNameWidthRow.holds Try.pinned (OpenSpec.ofChange fnExactNameWidthWrong)

/-- 'laws.FnExactTileBox': WHATEVER THE INPUT: true; the input reads as it did. -/
def fnExactTileBoxSpec : ChangeSpec := { name := "fnExactTileBox", fn := fun _ => fun
  | [d] => { results := [.lit (.bool true)], args := [d] }
  | _ => none }
def fnExactTileBoxRow : OpenClaim := { program := "ytlclpggodhodiaa", sum := "8f524f189f5b8fbcd65553772ed0afdb35c2ef5821716f0e50c3cfbb53a51607", func := "loop.example/g03005/laws.FnExactTileBox", spec := "fnExactTileBox", apart := false }
def FnExactTileBoxSaid : Prop := fnExactTileBoxRow.holds Try.pinned (OpenSpec.ofChange fnExactTileBoxSpec)

/-- ITS FALSE NEIGHBOUR: 'it returns false'. Refute it at one input. -/
def fnExactTileBoxWrong : ChangeSpec := { name := "fnExactTileBox", fn := fun _ => fun
  | [d] => { results := [.lit (.bool false)], args := [d] }
  | _ => none }
def FnExactTileBoxWrongFalsely : Prop := fnExactTileBoxRow.holds Try.pinned (OpenSpec.ofChange fnExactTileBoxWrong)

/-- 'laws.FnExactLabelBox': WHATEVER THE INPUT: true; the input reads as it did. -/
def fnExactLabelBoxSpec : ChangeSpec := { name := "fnExactLabelBox", fn := fun _ => fun
  | [d1, d2, d3] => { results := [.lit (.bool true)], args := [d1, d2, d3] }
  | _ => none }
def fnExactLabelBoxRow : OpenClaim := { program := "ytlclpggodhodiaa", sum := "8f524f189f5b8fbcd65553772ed0afdb35c2ef5821716f0e50c3cfbb53a51607", func := "loop.example/g03005/laws.FnExactLabelBox", spec := "fnExactLabelBox", apart := false }
def FnExactLabelBoxSaid : Prop := fnExactLabelBoxRow.holds Try.pinned (OpenSpec.ofChange fnExactLabelBoxSpec)

/-- ITS FALSE NEIGHBOUR: 'it returns false'. Refute it at one input. -/
def fnExactLabelBoxWrong : ChangeSpec := { name := "fnExactLabelBox", fn := fun _ => fun
  | [d1, d2, d3] => { results := [.lit (.bool false)], args := [d1, d2, d3] }
  | _ => none }
def FnExactLabelBoxWrongFalsely : Prop := fnExactLabelBoxRow.holds Try.pinned (OpenSpec.ofChange fnExactLabelBoxWrong)

/-- 'laws.FnExactCountPoints': WHATEVER THE INPUT: true; the input reads as it did. -/
def fnExactCountPointsSpec : ChangeSpec := { name := "fnExactCountPoints", fn := fun _ => fun
  | [d] => { results := [.lit (.bool true)], args := [d] }
  | _ => none }
def fnExactCountPointsRow : OpenClaim := { program := "ytlclpggodhodiaa", sum := "8f524f189f5b8fbcd65553772ed0afdb35c2ef5821716f0e50c3cfbb53a51607", func := "loop.example/g03005/laws.FnExactCountPoints", spec := "fnExactCountPoints", apart := false }
def FnExactCountPointsSaid : Prop := fnExactCountPointsRow.holds Try.pinned (OpenSpec.ofChange fnExactCountPointsSpec)

/-- ITS FALSE NEIGHBOUR: 'it returns false'. Refute it at one input. -/
def fnExactCountPointsWrong : ChangeSpec := { name := "fnExactCountPoints", fn := fun _ => fun
  | [d] => { results := [.lit (.bool false)], args := [d] }
  | _ => none }
def FnExactCountPointsWrongFalsely : Prop := fnExactCountPointsRow.holds Try.pinned (OpenSpec.ofChange fnExactCountPointsWrong)

/-- 'laws.FnExactCornersFor': WHATEVER THE INPUT: true; the input reads as it did. -/
def fnExactCornersForSpec : ChangeSpec := { name := "fnExactCornersFor", fn := fun _ => fun
  | [d1, d2] => { results := [.lit (.bool true)], args := [d1, d2] }
  | _ => none }
def fnExactCornersForRow : OpenClaim := { program := "ytlclpggodhodiaa", sum := "8f524f189f5b8fbcd65553772ed0afdb35c2ef5821716f0e50c3cfbb53a51607", func := "loop.example/g03005/laws.FnExactCornersFor", spec := "fnExactCornersFor", apart := false }
def FnExactCornersForSaid : Prop := fnExactCornersForRow.holds Try.pinned (OpenSpec.ofChange fnExactCornersForSpec)

/-- ITS FALSE NEIGHBOUR: 'it returns false'. Refute it at one input. -/
def fnExactCornersForWrong : ChangeSpec := { name := "fnExactCornersFor", fn := fun _ => fun
  | [d1, d2] => { results := [.lit (.bool false)], args := [d1, d2] }
  | _ => none }
def FnExactCornersForWrongFalsely : Prop := fnExactCornersForRow.holds Try.pinned (OpenSpec.ofChange fnExactCornersForWrong)

/-- 'laws.FnExactAreApart': WHATEVER THE INPUT: true; the input reads as it did. -/
def fnExactAreApartSpec : ChangeSpec := { name := "fnExactAreApart", fn := fun _ => fun
  | [d] => { results := [.lit (.bool true)], args := [d] }
  | _ => none }
def fnExactAreApartRow : OpenClaim := { program := "ytlclpggodhodiaa", sum := "8f524f189f5b8fbcd65553772ed0afdb35c2ef5821716f0e50c3cfbb53a51607", func := "loop.example/g03005/laws.FnExactAreApart", spec := "fnExactAreApart", apart := false }
def FnExactAreApartSaid : Prop := fnExactAreApartRow.holds Try.pinned (OpenSpec.ofChange fnExactAreApartSpec)

/-- ITS FALSE NEIGHBOUR: 'it returns false'. Refute it at one input. -/
def fnExactAreApartWrong : ChangeSpec := { name := "fnExactAreApart", fn := fun _ => fun
  | [d] => { results := [.lit (.bool false)], args := [d] }
  | _ => none }
def FnExactAreApartWrongFalsely : Prop := fnExactAreApartRow.holds Try.pinned (OpenSpec.ofChange fnExactAreApartWrong)

/-- 'laws.FnExactNamedIds': WHATEVER THE INPUT: true; the input reads as it did. -/
def fnExactNamedIdsSpec : ChangeSpec := { name := "fnExactNamedIds", fn := fun _ => fun
  | [d] => { results := [.lit (.bool true)], args := [d] }
  | _ => none }
def fnExactNamedIdsRow : OpenClaim := { program := "ytlclpggodhodiaa", sum := "8f524f189f5b8fbcd65553772ed0afdb35c2ef5821716f0e50c3cfbb53a51607", func := "loop.example/g03005/laws.FnExactNamedIds", spec := "fnExactNamedIds", apart := false }
def FnExactNamedIdsSaid : Prop := fnExactNamedIdsRow.holds Try.pinned (OpenSpec.ofChange fnExactNamedIdsSpec)

/-- ITS FALSE NEIGHBOUR: 'it returns false'. Refute it at one input. -/
def fnExactNamedIdsWrong : ChangeSpec := { name := "fnExactNamedIds", fn := fun _ => fun
  | [d] => { results := [.lit (.bool false)], args := [d] }
  | _ => none }
def FnExactNamedIdsWrongFalsely : Prop := fnExactNamedIdsRow.holds Try.pinned (OpenSpec.ofChange fnExactNamedIdsWrong)

/-- 'laws.FnExactMeetsBox': WHATEVER THE INPUT: true; the input reads as it did. -/
def fnExactMeetsBoxSpec : ChangeSpec := { name := "fnExactMeetsBox", fn := fun _ => fun
  | [d1, d2] => { results := [.lit (.bool true)], args := [d1, d2] }
  | _ => none }
def fnExactMeetsBoxRow : OpenClaim := { program := "ytlclpggodhodiaa", sum := "8f524f189f5b8fbcd65553772ed0afdb35c2ef5821716f0e50c3cfbb53a51607", func := "loop.example/g03005/laws.FnExactMeetsBox", spec := "fnExactMeetsBox", apart := false }
def FnExactMeetsBoxSaid : Prop := fnExactMeetsBoxRow.holds Try.pinned (OpenSpec.ofChange fnExactMeetsBoxSpec)

/-- ITS FALSE NEIGHBOUR: 'it returns false'. Refute it at one input. -/
def fnExactMeetsBoxWrong : ChangeSpec := { name := "fnExactMeetsBox", fn := fun _ => fun
  | [d1, d2] => { results := [.lit (.bool false)], args := [d1, d2] }
  | _ => none }
def FnExactMeetsBoxWrongFalsely : Prop := fnExactMeetsBoxRow.holds Try.pinned (OpenSpec.ofChange fnExactMeetsBoxWrong)

/-- 'laws.FnExactFreeCorner': WHATEVER THE INPUT: true; the input reads as it did. -/
def fnExactFreeCornerSpec : ChangeSpec := { name := "fnExactFreeCorner", fn := fun _ => fun
  | [d1, d2, d3] => { results := [.lit (.bool true)], args := [d1, d2, d3] }
  | _ => none }
def fnExactFreeCornerRow : OpenClaim := { program := "ytlclpggodhodiaa", sum := "8f524f189f5b8fbcd65553772ed0afdb35c2ef5821716f0e50c3cfbb53a51607", func := "loop.example/g03005/laws.FnExactFreeCorner", spec := "fnExactFreeCorner", apart := false }
def FnExactFreeCornerSaid : Prop := fnExactFreeCornerRow.holds Try.pinned (OpenSpec.ofChange fnExactFreeCornerSpec)

/-- ITS FALSE NEIGHBOUR: 'it returns false'. Refute it at one input. -/
def fnExactFreeCornerWrong : ChangeSpec := { name := "fnExactFreeCorner", fn := fun _ => fun
  | [d1, d2, d3] => { results := [.lit (.bool false)], args := [d1, d2, d3] }
  | _ => none }
def FnExactFreeCornerWrongFalsely : Prop := fnExactFreeCornerRow.holds Try.pinned (OpenSpec.ofChange fnExactFreeCornerWrong)

/-- 'laws.FnLabels': WHATEVER THE INPUT: true; the input reads as it did. -/
def fnLabelsSpec : ChangeSpec := { name := "fnLabels", fn := fun _ => fun
  | [d] => { results := [.lit (.bool true)], args := [d] }
  | _ => none }
def fnLabelsRow : OpenClaim := { program := "ytlclpggodhodiaa", sum := "8f524f189f5b8fbcd65553772ed0afdb35c2ef5821716f0e50c3cfbb53a51607", func := "loop.example/g03005/laws.FnLabels", spec := "fnLabels", apart := false }
def FnLabelsSaid : Prop := fnLabelsRow.holds Try.pinned (OpenSpec.ofChange fnLabelsSpec)

/-- ITS FALSE NEIGHBOUR: 'it returns false'. Refute it at one input. -/
def fnLabelsWrong : ChangeSpec := { name := "fnLabels", fn := fun _ => fun
  | [d] => { results := [.lit (.bool false)], args := [d] }
  | _ => none }
def FnLabelsWrongFalsely : Prop := fnLabelsRow.holds Try.pinned (OpenSpec.ofChange fnLabelsWrong)

/-- 'laws.FnExactEqualCharts': WHATEVER THE INPUT: true; the input reads as it did. -/
def fnExactEqualChartsSpec : ChangeSpec := { name := "fnExactEqualCharts", fn := fun _ => fun
  | [d1, d2] => { results := [.lit (.bool true)], args := [d1, d2] }
  | _ => none }
def fnExactEqualChartsRow : OpenClaim := { program := "ytlclpggodhodiaa", sum := "8f524f189f5b8fbcd65553772ed0afdb35c2ef5821716f0e50c3cfbb53a51607", func := "loop.example/g03005/laws.FnExactEqualCharts", spec := "fnExactEqualCharts", unfollowed := true, recurses := true, apart := false }
def FnExactEqualChartsSaid : Prop := fnExactEqualChartsRow.holds Try.pinned (OpenSpec.ofChange fnExactEqualChartsSpec)

/-- ITS FALSE NEIGHBOUR: 'it returns false'. Refute it at one input. -/
def fnExactEqualChartsWrong : ChangeSpec := { name := "fnExactEqualCharts", fn := fun _ => fun
  | [d1, d2] => { results := [.lit (.bool false)], args := [d1, d2] }
  | _ => none }
def FnExactEqualChartsWrongFalsely : Prop := fnExactEqualChartsRow.holds Try.pinned (OpenSpec.ofChange fnExactEqualChartsWrong)

/- THE SECOND FORM. 'bulk': how many values and letters a reading holds, each counted each time it is reached (what is shared counts as often as it is met; a slice's spare places count too). A statement '..UptoSaid' is the law's where the arguments, and the package variables that the reading takes, are together of bulk at most 1048576: NARROWER than '..Said'. Prove '..Said' where nothing that the law and all that it calls make is longer than what came in: it says more and counts as full. Else prove '..UptoSaid'. A law counts once. -/
mutual
def uptoBulk {H : Type} : DataW H → Nat
  | .lit (.string bytes) => bytes.length + 1
  | .lit _ => 1
  | .nil => 1
  | .ptr d => uptoBulk d + 1
  | .slice elems spare => uptoBulkAll elems + uptoBulkAll spare + 1
  | .agg parts => uptoBulkAll parts + 1
  | .iface _ d => uptoBulk d + 1
  | .map entries => uptoBulkEntries entries + 1
  | .held _ => 1
def uptoBulkAll {H : Type} : List (DataW H) → Nat
  | [] => 0
  | d :: r => uptoBulk d + uptoBulkAll r
def uptoBulkEntries {H : Type} : List (Lit × DataW H) → Nat
  | [] => 0
  | x :: r => uptoBulkEntry x + uptoBulkEntries r
def uptoBulkEntry {H : Type} : Lit × DataW H → Nat
  | (.string bytes, d) => bytes.length + uptoBulk d + 1
  | (_, d) => uptoBulk d + 1
 end
def uptoSmall : (H : Type) → List (DataW H) → Bool := fun _ ds => decide (uptoBulkAll ds ≤ 1048576)
def OpenSpec.upto (s : _root_.Go.ChangeSpec) : _root_.Go.OpenSpec := { _root_.Go.OpenSpec.ofChange s with cond := some uptoSmall }

/-- 'laws.FnExactCornerName', WHERE WHAT IT READS IS OF BULK AT MOST 1048576: true; the input reads as it did. -/
def fnExactCornerNameUptoRow : OpenClaim := { program := "ytlclpggodhodiaa", sum := "8f524f189f5b8fbcd65553772ed0afdb35c2ef5821716f0e50c3cfbb53a51607", func := "loop.example/g03005/laws.FnExactCornerName", spec := "fnExactCornerName", apart := false, narrowed := true }
def FnExactCornerNameUptoSaid : Prop := fnExactCornerNameUptoRow.holds Try.pinned (OpenSpec.upto fnExactCornerNameSpec)

/-- 'laws.FnExactIsLevel', WHERE WHAT IT READS IS OF BULK AT MOST 1048576: true; the input reads as it did. -/
def fnExactIsLevelUptoRow : OpenClaim := { program := "ytlclpggodhodiaa", sum := "8f524f189f5b8fbcd65553772ed0afdb35c2ef5821716f0e50c3cfbb53a51607", func := "loop.example/g03005/laws.FnExactIsLevel", spec := "fnExactIsLevel", apart := false, narrowed := true }
def FnExactIsLevelUptoSaid : Prop := fnExactIsLevelUptoRow.holds Try.pinned (OpenSpec.upto fnExactIsLevelSpec)

/-- 'laws.FnExactTileOf', WHERE WHAT IT READS IS OF BULK AT MOST 1048576: true; the input reads as it did. -/
def fnExactTileOfUptoRow : OpenClaim := { program := "ytlclpggodhodiaa", sum := "8f524f189f5b8fbcd65553772ed0afdb35c2ef5821716f0e50c3cfbb53a51607", func := "loop.example/g03005/laws.FnExactTileOf", spec := "fnExactTileOf", apart := false, narrowed := true }
def FnExactTileOfUptoSaid : Prop := fnExactTileOfUptoRow.holds Try.pinned (OpenSpec.upto fnExactTileOfSpec)

/-- 'laws.FnExactNameWidth', WHERE WHAT IT READS IS OF BULK AT MOST 1048576: true; the input reads as it did. -/
def fnExactNameWidthUptoRow : OpenClaim := { program := "ytlclpggodhodiaa", sum := "8f524f189f5b8fbcd65553772ed0afdb35c2ef5821716f0e50c3cfbb53a51607", func := "loop.example/g03005/laws.FnExactNameWidth", spec := "fnExactNameWidth", apart := false, narrowed := true }
def FnExactNameWidthUptoSaid : Prop := fnExactNameWidthUptoRow.holds Try.pinned (OpenSpec.upto fnExactNameWidthSpec)

/-- 'laws.FnExactTileBox', WHERE WHAT IT READS IS OF BULK AT MOST 1048576: true; the input reads as it did. -/
def fnExactTileBoxUptoRow : OpenClaim := { program := "ytlclpggodhodiaa", sum := "8f524f189f5b8fbcd65553772ed0afdb35c2ef5821716f0e50c3cfbb53a51607", func := "loop.example/g03005/laws.FnExactTileBox", spec := "fnExactTileBox", apart := false, narrowed := true }
def FnExactTileBoxUptoSaid : Prop := fnExactTileBoxUptoRow.holds Try.pinned (OpenSpec.upto fnExactTileBoxSpec)

/-- 'laws.FnExactLabelBox', WHERE WHAT IT READS IS OF BULK AT MOST 1048576: true; the input reads as it did. -/
def fnExactLabelBoxUptoRow : OpenClaim := { program := "ytlclpggodhodiaa", sum := "8f524f189f5b8fbcd65553772ed0afdb35c2ef5821716f0e50c3cfbb53a51607", func := "loop.example/g03005/laws.FnExactLabelBox", spec := "fnExactLabelBox", apart := false, narrowed := true }
def FnExactLabelBoxUptoSaid : Prop := fnExactLabelBoxUptoRow.holds Try.pinned (OpenSpec.upto fnExactLabelBoxSpec)

/-- 'laws.FnExactCountPoints', WHERE WHAT IT READS IS OF BULK AT MOST 1048576: true; the input reads as it did. -/
def fnExactCountPointsUptoRow : OpenClaim := { program := "ytlclpggodhodiaa", sum := "8f524f189f5b8fbcd65553772ed0afdb35c2ef5821716f0e50c3cfbb53a51607", func := "loop.example/g03005/laws.FnExactCountPoints", spec := "fnExactCountPoints", apart := false, narrowed := true }
def FnExactCountPointsUptoSaid : Prop := fnExactCountPointsUptoRow.holds Try.pinned (OpenSpec.upto fnExactCountPointsSpec)

/-- 'laws.FnExactCornersFor', WHERE WHAT IT READS IS OF BULK AT MOST 1048576: true; the input reads as it did. -/
def fnExactCornersForUptoRow : OpenClaim := { program := "ytlclpggodhodiaa", sum := "8f524f189f5b8fbcd65553772ed0afdb35c2ef5821716f0e50c3cfbb53a51607", func := "loop.example/g03005/laws.FnExactCornersFor", spec := "fnExactCornersFor", apart := false, narrowed := true }
def FnExactCornersForUptoSaid : Prop := fnExactCornersForUptoRow.holds Try.pinned (OpenSpec.upto fnExactCornersForSpec)

/-- 'laws.FnExactAreApart', WHERE WHAT IT READS IS OF BULK AT MOST 1048576: true; the input reads as it did. -/
def fnExactAreApartUptoRow : OpenClaim := { program := "ytlclpggodhodiaa", sum := "8f524f189f5b8fbcd65553772ed0afdb35c2ef5821716f0e50c3cfbb53a51607", func := "loop.example/g03005/laws.FnExactAreApart", spec := "fnExactAreApart", apart := false, narrowed := true }
def FnExactAreApartUptoSaid : Prop := fnExactAreApartUptoRow.holds Try.pinned (OpenSpec.upto fnExactAreApartSpec)

/-- 'laws.FnExactNamedIds', WHERE WHAT IT READS IS OF BULK AT MOST 1048576: true; the input reads as it did. -/
def fnExactNamedIdsUptoRow : OpenClaim := { program := "ytlclpggodhodiaa", sum := "8f524f189f5b8fbcd65553772ed0afdb35c2ef5821716f0e50c3cfbb53a51607", func := "loop.example/g03005/laws.FnExactNamedIds", spec := "fnExactNamedIds", apart := false, narrowed := true }
def FnExactNamedIdsUptoSaid : Prop := fnExactNamedIdsUptoRow.holds Try.pinned (OpenSpec.upto fnExactNamedIdsSpec)

/-- 'laws.FnExactMeetsBox', WHERE WHAT IT READS IS OF BULK AT MOST 1048576: true; the input reads as it did. -/
def fnExactMeetsBoxUptoRow : OpenClaim := { program := "ytlclpggodhodiaa", sum := "8f524f189f5b8fbcd65553772ed0afdb35c2ef5821716f0e50c3cfbb53a51607", func := "loop.example/g03005/laws.FnExactMeetsBox", spec := "fnExactMeetsBox", apart := false, narrowed := true }
def FnExactMeetsBoxUptoSaid : Prop := fnExactMeetsBoxUptoRow.holds Try.pinned (OpenSpec.upto fnExactMeetsBoxSpec)

/-- 'laws.FnExactFreeCorner', WHERE WHAT IT READS IS OF BULK AT MOST 1048576: true; the input reads as it did. -/
def fnExactFreeCornerUptoRow : OpenClaim := { program := "ytlclpggodhodiaa", sum := "8f524f189f5b8fbcd65553772ed0afdb35c2ef5821716f0e50c3cfbb53a51607", func := "loop.example/g03005/laws.FnExactFreeCorner", spec := "fnExactFreeCorner", apart := false, narrowed := true }
def FnExactFreeCornerUptoSaid : Prop := fnExactFreeCornerUptoRow.holds Try.pinned (OpenSpec.upto fnExactFreeCornerSpec)

/-- 'laws.FnLabels', WHERE WHAT IT READS IS OF BULK AT MOST 1048576: true; the input reads as it did. -/
def fnLabelsUptoRow : OpenClaim := { program := "ytlclpggodhodiaa", sum := "8f524f189f5b8fbcd65553772ed0afdb35c2ef5821716f0e50c3cfbb53a51607", func := "loop.example/g03005/laws.FnLabels", spec := "fnLabels", apart := false, narrowed := true }
def FnLabelsUptoSaid : Prop := fnLabelsUptoRow.holds Try.pinned (OpenSpec.upto fnLabelsSpec)

/-- 'laws.FnExactEqualCharts', WHERE WHAT IT READS IS OF BULK AT MOST 1048576: true; the input reads as it did. -/
def fnExactEqualChartsUptoRow : OpenClaim := { program := "ytlclpggodhodiaa", sum := "8f524f189f5b8fbcd65553772ed0afdb35c2ef5821716f0e50c3cfbb53a51607", func := "loop.example/g03005/laws.FnExactEqualCharts", spec := "fnExactEqualCharts", unfollowed := true, recurses := true, apart := false, narrowed := true }
def FnExactEqualChartsUptoSaid : Prop := fnExactEqualChartsUptoRow.holds Try.pinned (OpenSpec.upto fnExactEqualChartsSpec)

end Rows
end Go.Proofs.Ytlclpggodhodiaa
