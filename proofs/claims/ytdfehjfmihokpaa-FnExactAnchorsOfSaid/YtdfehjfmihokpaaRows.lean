/-
  No cell of these rows narrows 'for every input' (looked for: loops, veiled, ifaces, maps, wideKeys, modest, calm, conditions, laid).
  DERIVED. THE GIVEN ROWS OF THIS SEAT. 12 by the template 'for every input the law returns true; each argument reads behind the call as it read before'; 0 by the template 'total and deterministic' (their statements: YtdfehjfmihokpaaTotals.lean).
  GIVEN WITH THE SEED: the statements are not yours to turn. If you find one false, say at which input.
  Laid BY PROGRAM, IN A SANDBOX (cutbox-rows.mjs): the forced cells as the released guide's own fill.sh prints them over the translation f1cc945945bc10ba… (all of the seat's roots in one cut). By AI agents, Wed Nov 11 2026. No macro, syntax, notation, axiom, sorry.
-/
import Derived.Test.YtdfehjfmihokpaaChecked
import GoSem.Claim
import GoSem.ClaimJoined
import GoSem.ClaimMapViews
import Derived.JoinedTies
import Derived.KernelRfl
namespace Go.Proofs.Ytdfehjfmihokpaa
/- THE CELL 'sum', in the pinned program and in every row, IS THE sha256 OF THE DUMP (.gsa) THAT YtdfehjfmihokpaaProg.lean LOADS. Nothing in Lean hashes anything: it is a label: what it is worth is what the hold of that sum in a sandbox is worth. -/
noncomputable def Try.pinned : Pinned := { name := "ytdfehjfmihokpaa", sum := "f1cc945945bc10ba40da98753431bef2bd76659d3117fd1267bf194498425516", checked := Try.checked }
namespace Rows
def none {H : Type} : Left H := { results := [], args := [] }

/-- 'laws.FnExactSizeAt': WHATEVER THE INPUT: true; the input reads as it did. -/
def fnExactSizeAtSpec : ChangeSpec := { name := "fnExactSizeAt", fn := fun _ => fun
  | [d1, d2] => { results := [.lit (.bool true)], args := [d1, d2] }
  | _ => none }
def fnExactSizeAtRow : OpenClaim := { program := "ytdfehjfmihokpaa", sum := "f1cc945945bc10ba40da98753431bef2bd76659d3117fd1267bf194498425516", func := "loop.example/g03005/laws.FnExactSizeAt", spec := "fnExactSizeAt", apart := false }
def FnExactSizeAtSaid : Prop := fnExactSizeAtRow.holds Try.pinned (OpenSpec.ofChange fnExactSizeAtSpec)

/-- ITS FALSE NEIGHBOUR: 'it returns false'. Refute it at one input. -/
def fnExactSizeAtWrong : ChangeSpec := { name := "fnExactSizeAt", fn := fun _ => fun
  | [d1, d2] => { results := [.lit (.bool false)], args := [d1, d2] }
  | _ => none }
def FnExactSizeAtWrongFalsely : Prop := fnExactSizeAtRow.holds Try.pinned (OpenSpec.ofChange fnExactSizeAtWrong)

/-- 'laws.FnExactPieceDigest': WHATEVER THE INPUT: true; the input reads as it did. -/
def fnExactPieceDigestSpec : ChangeSpec := { name := "fnExactPieceDigest", fn := fun _ => fun
  | [d1, d2] => { results := [.lit (.bool true)], args := [d1, d2] }
  | _ => none }
def fnExactPieceDigestRow : OpenClaim := { program := "ytdfehjfmihokpaa", sum := "f1cc945945bc10ba40da98753431bef2bd76659d3117fd1267bf194498425516", func := "loop.example/g03005/laws.FnExactPieceDigest", spec := "fnExactPieceDigest", apart := false }
def FnExactPieceDigestSaid : Prop := fnExactPieceDigestRow.holds Try.pinned (OpenSpec.ofChange fnExactPieceDigestSpec)

/-- ITS FALSE NEIGHBOUR: 'it returns false'. Refute it at one input. -/
def fnExactPieceDigestWrong : ChangeSpec := { name := "fnExactPieceDigest", fn := fun _ => fun
  | [d1, d2] => { results := [.lit (.bool false)], args := [d1, d2] }
  | _ => none }
def FnExactPieceDigestWrongFalsely : Prop := fnExactPieceDigestRow.holds Try.pinned (OpenSpec.ofChange fnExactPieceDigestWrong)

/-- 'laws.FnExactDropFrom': WHATEVER THE INPUT: true; the input reads as it did. -/
def fnExactDropFromSpec : ChangeSpec := { name := "fnExactDropFrom", fn := fun _ => fun
  | [d1, d2] => { results := [.lit (.bool true)], args := [d1, d2] }
  | _ => none }
def fnExactDropFromRow : OpenClaim := { program := "ytdfehjfmihokpaa", sum := "f1cc945945bc10ba40da98753431bef2bd76659d3117fd1267bf194498425516", func := "loop.example/g03005/laws.FnExactDropFrom", spec := "fnExactDropFrom", apart := false }
def FnExactDropFromSaid : Prop := fnExactDropFromRow.holds Try.pinned (OpenSpec.ofChange fnExactDropFromSpec)

/-- ITS FALSE NEIGHBOUR: 'it returns false'. Refute it at one input. -/
def fnExactDropFromWrong : ChangeSpec := { name := "fnExactDropFrom", fn := fun _ => fun
  | [d1, d2] => { results := [.lit (.bool false)], args := [d1, d2] }
  | _ => none }
def FnExactDropFromWrongFalsely : Prop := fnExactDropFromRow.holds Try.pinned (OpenSpec.ofChange fnExactDropFromWrong)

/-- 'laws.FnExactAnchorsOf': WHATEVER THE INPUT: true; the input reads as it did. -/
def fnExactAnchorsOfSpec : ChangeSpec := { name := "fnExactAnchorsOf", fn := fun _ => fun
  | [d] => { results := [.lit (.bool true)], args := [d] }
  | _ => none }
def fnExactAnchorsOfRow : OpenClaim := { program := "ytdfehjfmihokpaa", sum := "f1cc945945bc10ba40da98753431bef2bd76659d3117fd1267bf194498425516", func := "loop.example/g03005/laws.FnExactAnchorsOf", spec := "fnExactAnchorsOf", apart := false }
def FnExactAnchorsOfSaid : Prop := fnExactAnchorsOfRow.holds Try.pinned (OpenSpec.ofChange fnExactAnchorsOfSpec)

/-- ITS FALSE NEIGHBOUR: 'it returns false'. Refute it at one input. -/
def fnExactAnchorsOfWrong : ChangeSpec := { name := "fnExactAnchorsOf", fn := fun _ => fun
  | [d] => { results := [.lit (.bool false)], args := [d] }
  | _ => none }
def FnExactAnchorsOfWrongFalsely : Prop := fnExactAnchorsOfRow.holds Try.pinned (OpenSpec.ofChange fnExactAnchorsOfWrong)

/-- 'laws.FnExactIsChart': WHATEVER THE INPUT: true; the input reads as it did. -/
def fnExactIsChartSpec : ChangeSpec := { name := "fnExactIsChart", fn := fun _ => fun
  | [d] => { results := [.lit (.bool true)], args := [d] }
  | _ => none }
def fnExactIsChartRow : OpenClaim := { program := "ytdfehjfmihokpaa", sum := "f1cc945945bc10ba40da98753431bef2bd76659d3117fd1267bf194498425516", func := "loop.example/g03005/laws.FnExactIsChart", spec := "fnExactIsChart", unfollowed := true, recurses := true, apart := false }
def FnExactIsChartSaid : Prop := fnExactIsChartRow.holds Try.pinned (OpenSpec.ofChange fnExactIsChartSpec)

/-- ITS FALSE NEIGHBOUR: 'it returns false'. Refute it at one input. -/
def fnExactIsChartWrong : ChangeSpec := { name := "fnExactIsChart", fn := fun _ => fun
  | [d] => { results := [.lit (.bool false)], args := [d] }
  | _ => none }
def FnExactIsChartWrongFalsely : Prop := fnExactIsChartRow.holds Try.pinned (OpenSpec.ofChange fnExactIsChartWrong)

/-- 'laws.FnExactTouchedTiles': WHATEVER THE INPUT: true; the input reads as it did. -/
def fnExactTouchedTilesSpec : ChangeSpec := { name := "fnExactTouchedTiles", fn := fun _ => fun
  | [d] => { results := [.lit (.bool true)], args := [d] }
  | _ => none }
def fnExactTouchedTilesRow : OpenClaim := { program := "ytdfehjfmihokpaa", sum := "f1cc945945bc10ba40da98753431bef2bd76659d3117fd1267bf194498425516", func := "loop.example/g03005/laws.FnExactTouchedTiles", spec := "fnExactTouchedTiles", apart := false }
def FnExactTouchedTilesSaid : Prop := fnExactTouchedTilesRow.holds Try.pinned (OpenSpec.ofChange fnExactTouchedTilesSpec)

/-- ITS FALSE NEIGHBOUR: 'it returns false'. Refute it at one input. -/
def fnExactTouchedTilesWrong : ChangeSpec := { name := "fnExactTouchedTiles", fn := fun _ => fun
  | [d] => { results := [.lit (.bool false)], args := [d] }
  | _ => none }
def FnExactTouchedTilesWrongFalsely : Prop := fnExactTouchedTilesRow.holds Try.pinned (OpenSpec.ofChange fnExactTouchedTilesWrong)

/-- 'laws.FnExactCanShrink': WHATEVER THE INPUT: true; the input reads as it did. -/
def fnExactCanShrinkSpec : ChangeSpec := { name := "fnExactCanShrink", fn := fun _ => fun
  | [d1, d2, d3] => { results := [.lit (.bool true)], args := [d1, d2, d3] }
  | _ => none }
def fnExactCanShrinkRow : OpenClaim := { program := "ytdfehjfmihokpaa", sum := "f1cc945945bc10ba40da98753431bef2bd76659d3117fd1267bf194498425516", func := "loop.example/g03005/laws.FnExactCanShrink", spec := "fnExactCanShrink", apart := false }
def FnExactCanShrinkSaid : Prop := fnExactCanShrinkRow.holds Try.pinned (OpenSpec.ofChange fnExactCanShrinkSpec)

/-- ITS FALSE NEIGHBOUR: 'it returns false'. Refute it at one input. -/
def fnExactCanShrinkWrong : ChangeSpec := { name := "fnExactCanShrink", fn := fun _ => fun
  | [d1, d2, d3] => { results := [.lit (.bool false)], args := [d1, d2, d3] }
  | _ => none }
def FnExactCanShrinkWrongFalsely : Prop := fnExactCanShrinkRow.holds Try.pinned (OpenSpec.ofChange fnExactCanShrinkWrong)

/-- 'laws.FnExactAllPieces': WHATEVER THE INPUT: true; the input reads as it did. -/
def fnExactAllPiecesSpec : ChangeSpec := { name := "fnExactAllPieces", fn := fun _ => fun
  | [d] => { results := [.lit (.bool true)], args := [d] }
  | _ => none }
def fnExactAllPiecesRow : OpenClaim := { program := "ytdfehjfmihokpaa", sum := "f1cc945945bc10ba40da98753431bef2bd76659d3117fd1267bf194498425516", func := "loop.example/g03005/laws.FnExactAllPieces", spec := "fnExactAllPieces", apart := false }
def FnExactAllPiecesSaid : Prop := fnExactAllPiecesRow.holds Try.pinned (OpenSpec.ofChange fnExactAllPiecesSpec)

/-- ITS FALSE NEIGHBOUR: 'it returns false'. Refute it at one input. -/
def fnExactAllPiecesWrong : ChangeSpec := { name := "fnExactAllPieces", fn := fun _ => fun
  | [d] => { results := [.lit (.bool false)], args := [d] }
  | _ => none }
def FnExactAllPiecesWrongFalsely : Prop := fnExactAllPiecesRow.holds Try.pinned (OpenSpec.ofChange fnExactAllPiecesWrong)

/-- 'laws.FnExactPiecesIn': WHATEVER THE INPUT: true; the input reads as it did. -/
def fnExactPiecesInSpec : ChangeSpec := { name := "fnExactPiecesIn", fn := fun _ => fun
  | [d1, d2] => { results := [.lit (.bool true)], args := [d1, d2] }
  | _ => none }
def fnExactPiecesInRow : OpenClaim := { program := "ytdfehjfmihokpaa", sum := "f1cc945945bc10ba40da98753431bef2bd76659d3117fd1267bf194498425516", func := "loop.example/g03005/laws.FnExactPiecesIn", spec := "fnExactPiecesIn", apart := false }
def FnExactPiecesInSaid : Prop := fnExactPiecesInRow.holds Try.pinned (OpenSpec.ofChange fnExactPiecesInSpec)

/-- ITS FALSE NEIGHBOUR: 'it returns false'. Refute it at one input. -/
def fnExactPiecesInWrong : ChangeSpec := { name := "fnExactPiecesIn", fn := fun _ => fun
  | [d1, d2] => { results := [.lit (.bool false)], args := [d1, d2] }
  | _ => none }
def FnExactPiecesInWrongFalsely : Prop := fnExactPiecesInRow.holds Try.pinned (OpenSpec.ofChange fnExactPiecesInWrong)

/-- 'laws.FnExactTileDigest': WHATEVER THE INPUT: true; the input reads as it did. -/
def fnExactTileDigestSpec : ChangeSpec := { name := "fnExactTileDigest", fn := fun _ => fun
  | [d1, d2] => { results := [.lit (.bool true)], args := [d1, d2] }
  | _ => none }
def fnExactTileDigestRow : OpenClaim := { program := "ytdfehjfmihokpaa", sum := "f1cc945945bc10ba40da98753431bef2bd76659d3117fd1267bf194498425516", func := "loop.example/g03005/laws.FnExactTileDigest", spec := "fnExactTileDigest", unfollowed := true, recurses := true, apart := false }
def FnExactTileDigestSaid : Prop := fnExactTileDigestRow.holds Try.pinned (OpenSpec.ofChange fnExactTileDigestSpec)

/-- ITS FALSE NEIGHBOUR: 'it returns false'. Refute it at one input. -/
def fnExactTileDigestWrong : ChangeSpec := { name := "fnExactTileDigest", fn := fun _ => fun
  | [d1, d2] => { results := [.lit (.bool false)], args := [d1, d2] }
  | _ => none }
def FnExactTileDigestWrongFalsely : Prop := fnExactTileDigestRow.holds Try.pinned (OpenSpec.ofChange fnExactTileDigestWrong)

/-- 'laws.FnExactShrinkFeature': WHATEVER THE INPUT: true; the input reads as it did. -/
def fnExactShrinkFeatureSpec : ChangeSpec := { name := "fnExactShrinkFeature", fn := fun _ => fun
  | [d1, d2, d3] => { results := [.lit (.bool true)], args := [d1, d2, d3] }
  | _ => none }
def fnExactShrinkFeatureRow : OpenClaim := { program := "ytdfehjfmihokpaa", sum := "f1cc945945bc10ba40da98753431bef2bd76659d3117fd1267bf194498425516", func := "loop.example/g03005/laws.FnExactShrinkFeature", spec := "fnExactShrinkFeature", apart := false }
def FnExactShrinkFeatureSaid : Prop := fnExactShrinkFeatureRow.holds Try.pinned (OpenSpec.ofChange fnExactShrinkFeatureSpec)

/-- ITS FALSE NEIGHBOUR: 'it returns false'. Refute it at one input. -/
def fnExactShrinkFeatureWrong : ChangeSpec := { name := "fnExactShrinkFeature", fn := fun _ => fun
  | [d1, d2, d3] => { results := [.lit (.bool false)], args := [d1, d2, d3] }
  | _ => none }
def FnExactShrinkFeatureWrongFalsely : Prop := fnExactShrinkFeatureRow.holds Try.pinned (OpenSpec.ofChange fnExactShrinkFeatureWrong)

/-- 'laws.FnExactShrinkAll': WHATEVER THE INPUT: true; the input reads as it did. -/
def fnExactShrinkAllSpec : ChangeSpec := { name := "fnExactShrinkAll", fn := fun _ => fun
  | [d1, d2] => { results := [.lit (.bool true)], args := [d1, d2] }
  | _ => none }
def fnExactShrinkAllRow : OpenClaim := { program := "ytdfehjfmihokpaa", sum := "f1cc945945bc10ba40da98753431bef2bd76659d3117fd1267bf194498425516", func := "loop.example/g03005/laws.FnExactShrinkAll", spec := "fnExactShrinkAll", apart := false }
def FnExactShrinkAllSaid : Prop := fnExactShrinkAllRow.holds Try.pinned (OpenSpec.ofChange fnExactShrinkAllSpec)

/-- ITS FALSE NEIGHBOUR: 'it returns false'. Refute it at one input. -/
def fnExactShrinkAllWrong : ChangeSpec := { name := "fnExactShrinkAll", fn := fun _ => fun
  | [d1, d2] => { results := [.lit (.bool false)], args := [d1, d2] }
  | _ => none }
def FnExactShrinkAllWrongFalsely : Prop := fnExactShrinkAllRow.holds Try.pinned (OpenSpec.ofChange fnExactShrinkAllWrong)

/- THE SECOND FORM. 'bulk': how many values and letters a reading holds, each counted each time it is reached (what is shared counts as often as it is met; a slice's spare places count too). A statement '..UptoSaid' is the law's where the arguments, and the package variables that the reading takes, are together of bulk at most 1048576: NARROWER than '..Said'. Prove '..Said' where nothing that the law and all that it calls make is longer than what came in: it says more and counts as full. Else prove '..UptoSaid'. A law counts once. -/
mutual
def uptoBulk {H : Type} : DataW H → Nat
  | .lit (.string bytes) => bytes.length + 1
  | .lit _ => 1
  | .nil => 1
  | .ptr d => uptoBulk d + 1
  | .slice elems spare => uptoBulkAll elems + uptoBulkAll spare + 1
  | .agg parts => uptoBulkAll parts + 1
  | .iface _ d => uptoBulk d + 1
  | .map entries => uptoBulkEntries entries + 1
  | .held _ => 1
def uptoBulkAll {H : Type} : List (DataW H) → Nat
  | [] => 0
  | d :: r => uptoBulk d + uptoBulkAll r
def uptoBulkEntries {H : Type} : List (Lit × DataW H) → Nat
  | [] => 0
  | x :: r => uptoBulkEntry x + uptoBulkEntries r
def uptoBulkEntry {H : Type} : Lit × DataW H → Nat
  | (.string bytes, d) => bytes.length + uptoBulk d + 1
  | (_, d) => uptoBulk d + 1
 end
def uptoSmall : (H : Type) → List (DataW H) → Bool := fun _ ds => decide (uptoBulkAll ds ≤ 1048576)
def OpenSpec.upto (s : _root_.Go.ChangeSpec) : _root_.Go.OpenSpec := { _root_.Go.OpenSpec.ofChange s with cond := some uptoSmall }

/-- 'laws.FnExactSizeAt', WHERE WHAT IT READS IS OF BULK AT MOST 1048576: true; the input reads as it did. -/
def fnExactSizeAtUptoRow : OpenClaim := { program := "ytdfehjfmihokpaa", sum := "f1cc945945bc10ba40da98753431bef2bd76659d3117fd1267bf194498425516", func := "loop.example/g03005/laws.FnExactSizeAt", spec := "fnExactSizeAt", apart := false, narrowed := true }
def FnExactSizeAtUptoSaid : Prop := fnExactSizeAtUptoRow.holds Try.pinned (OpenSpec.upto fnExactSizeAtSpec)

/-- 'laws.FnExactPieceDigest', WHERE WHAT IT READS IS OF BULK AT MOST 1048576: true; the input reads as it did. -/
def fnExactPieceDigestUptoRow : OpenClaim := { program := "ytdfehjfmihokpaa", sum := "f1cc945945bc10ba40da98753431bef2bd76659d3117fd1267bf194498425516", func := "loop.example/g03005/laws.FnExactPieceDigest", spec := "fnExactPieceDigest", apart := false, narrowed := true }
def FnExactPieceDigestUptoSaid : Prop := fnExactPieceDigestUptoRow.holds Try.pinned (OpenSpec.upto fnExactPieceDigestSpec)

/-- 'laws.FnExactDropFrom', WHERE WHAT IT READS IS OF BULK AT MOST 1048576: true; the input reads as it did. -/
def fnExactDropFromUptoRow : OpenClaim := { program := "ytdfehjfmihokpaa", sum := "f1cc945945bc10ba40da98753431bef2bd76659d3117fd1267bf194498425516", func := "loop.example/g03005/laws.FnExactDropFrom", spec := "fnExactDropFrom", apart := false, narrowed := true }
def FnExactDropFromUptoSaid : Prop := fnExactDropFromUptoRow.holds Try.pinned (OpenSpec.upto fnExactDropFromSpec)

/-- 'laws.FnExactAnchorsOf', WHERE WHAT IT READS IS OF BULK AT MOST 1048576: true; the input reads as it did. -/
def fnExactAnchorsOfUptoRow : OpenClaim := { program := "ytdfehjfmihokpaa", sum := "f1cc945945bc10ba40da98753431bef2bd76659d3117fd1267bf194498425516", func := "loop.example/g03005/laws.FnExactAnchorsOf", spec := "fnExactAnchorsOf", apart := false, narrowed := true }
def FnExactAnchorsOfUptoSaid : Prop := fnExactAnchorsOfUptoRow.holds Try.pinned (OpenSpec.upto fnExactAnchorsOfSpec)

/-- 'laws.FnExactIsChart', WHERE WHAT IT READS IS OF BULK AT MOST 1048576: true; the input reads as it did. -/
def fnExactIsChartUptoRow : OpenClaim := { program := "ytdfehjfmihokpaa", sum := "f1cc945945bc10ba40da98753431bef2bd76659d3117fd1267bf194498425516", func := "loop.example/g03005/laws.FnExactIsChart", spec := "fnExactIsChart", unfollowed := true, recurses := true, apart := false, narrowed := true }
def FnExactIsChartUptoSaid : Prop := fnExactIsChartUptoRow.holds Try.pinned (OpenSpec.upto fnExactIsChartSpec)

/-- 'laws.FnExactTouchedTiles', WHERE WHAT IT READS IS OF BULK AT MOST 1048576: true; the input reads as it did. -/
def fnExactTouchedTilesUptoRow : OpenClaim := { program := "ytdfehjfmihokpaa", sum := "f1cc945945bc10ba40da98753431bef2bd76659d3117fd1267bf194498425516", func := "loop.example/g03005/laws.FnExactTouchedTiles", spec := "fnExactTouchedTiles", apart := false, narrowed := true }
def FnExactTouchedTilesUptoSaid : Prop := fnExactTouchedTilesUptoRow.holds Try.pinned (OpenSpec.upto fnExactTouchedTilesSpec)

/-- 'laws.FnExactCanShrink', WHERE WHAT IT READS IS OF BULK AT MOST 1048576: true; the input reads as it did. -/
def fnExactCanShrinkUptoRow : OpenClaim := { program := "ytdfehjfmihokpaa", sum := "f1cc945945bc10ba40da98753431bef2bd76659d3117fd1267bf194498425516", func := "loop.example/g03005/laws.FnExactCanShrink", spec := "fnExactCanShrink", apart := false, narrowed := true }
def FnExactCanShrinkUptoSaid : Prop := fnExactCanShrinkUptoRow.holds Try.pinned (OpenSpec.upto fnExactCanShrinkSpec)

/-- 'laws.FnExactAllPieces', WHERE WHAT IT READS IS OF BULK AT MOST 1048576: true; the input reads as it did. -/
def fnExactAllPiecesUptoRow : OpenClaim := { program := "ytdfehjfmihokpaa", sum := "f1cc945945bc10ba40da98753431bef2bd76659d3117fd1267bf194498425516", func := "loop.example/g03005/laws.FnExactAllPieces", spec := "fnExactAllPieces", apart := false, narrowed := true }
def FnExactAllPiecesUptoSaid : Prop := fnExactAllPiecesUptoRow.holds Try.pinned (OpenSpec.upto fnExactAllPiecesSpec)

/-- 'laws.FnExactPiecesIn', WHERE WHAT IT READS IS OF BULK AT MOST 1048576: true; the input reads as it did. -/
def fnExactPiecesInUptoRow : OpenClaim := { program := "ytdfehjfmihokpaa", sum := "f1cc945945bc10ba40da98753431bef2bd76659d3117fd1267bf194498425516", func := "loop.example/g03005/laws.FnExactPiecesIn", spec := "fnExactPiecesIn", apart := false, narrowed := true }
def FnExactPiecesInUptoSaid : Prop := fnExactPiecesInUptoRow.holds Try.pinned (OpenSpec.upto fnExactPiecesInSpec)

/-- 'laws.FnExactTileDigest', WHERE WHAT IT READS IS OF BULK AT MOST 1048576: true; the input reads as it did. -/
def fnExactTileDigestUptoRow : OpenClaim := { program := "ytdfehjfmihokpaa", sum := "f1cc945945bc10ba40da98753431bef2bd76659d3117fd1267bf194498425516", func := "loop.example/g03005/laws.FnExactTileDigest", spec := "fnExactTileDigest", unfollowed := true, recurses := true, apart := false, narrowed := true }
def FnExactTileDigestUptoSaid : Prop := fnExactTileDigestUptoRow.holds Try.pinned (OpenSpec.upto fnExactTileDigestSpec)

/-- 'laws.FnExactShrinkFeature', WHERE WHAT IT READS IS OF BULK AT MOST 1048576: true; the input reads as it did. -/
def fnExactShrinkFeatureUptoRow : OpenClaim := { program := "ytdfehjfmihokpaa", sum := "f1cc945945bc10ba40da98753431bef2bd76659d3117fd1267bf194498425516", func := "loop.example/g03005/laws.FnExactShrinkFeature", spec := "fnExactShrinkFeature", apart := false, narrowed := true }
def FnExactShrinkFeatureUptoSaid : Prop := fnExactShrinkFeatureUptoRow.holds Try.pinned (OpenSpec.upto fnExactShrinkFeatureSpec)

/-- 'laws.FnExactShrinkAll', WHERE WHAT IT READS IS OF BULK AT MOST 1048576: true; the input reads as it did. -/
def fnExactShrinkAllUptoRow : OpenClaim := { program := "ytdfehjfmihokpaa", sum := "f1cc945945bc10ba40da98753431bef2bd76659d3117fd1267bf194498425516", func := "loop.example/g03005/laws.FnExactShrinkAll", spec := "fnExactShrinkAll", apart := false, narrowed := true }
def FnExactShrinkAllUptoSaid : Prop := fnExactShrinkAllUptoRow.holds Try.pinned (OpenSpec.upto fnExactShrinkAllSpec)

end Rows
end Go.Proofs.Ytdfehjfmihokpaa
