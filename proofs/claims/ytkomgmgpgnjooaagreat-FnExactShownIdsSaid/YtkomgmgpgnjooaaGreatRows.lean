/-
  No cell of these rows narrows 'for every input' (looked for: loops, veiled, ifaces, maps, wideKeys, modest, calm, conditions, laid).
  DERIVED. THE GIVEN ROWS OF THIS SEAT. 4 by the template 'for every input the law returns true; each argument reads behind the call as it read before'; 0 by the template 'total and deterministic' (their statements: YtkomgmgpgnjooaaGreatTotals.lean).
  GIVEN WITH THE SEED: the statements are not yours to turn. If you find one false, say at which input.
  Laid BY PROGRAM, IN A SANDBOX (cutbox-rows.mjs): the forced cells as the released guide's own fill.sh prints them over the translation 11230d35fafb9201… (all of the seat's roots in one cut). By AI agents, Wed Nov 11 2026. No macro, syntax, notation, axiom, sorry.
-/
import Derived.Test.YtkomgmgpgnjooaaGreatChecked
import GoSem.Claim
import GoSem.ClaimJoined
import GoSem.ClaimMapViews
import Derived.JoinedTies
import Derived.KernelRfl
namespace Go.Proofs.YtkomgmgpgnjooaaGreat
/- THE CELL 'sum', in the pinned program and in every row, IS THE sha256 OF THE DUMP (.gsa) THAT YtkomgmgpgnjooaaGreatProg.lean LOADS. Nothing in Lean hashes anything: it is a label: what it is worth is what the hold of that sum in a sandbox is worth. -/
noncomputable def Tryz.pinned : Pinned := { name := "ytkomgmgpgnjooaagreat", sum := "11230d35fafb92013319507b068feba0437c12d4f62ce7f0266a80e5d1b2ae38", checked := Tryz.checked }
namespace Rows
def none {H : Type} : Left H := { results := [], args := [] }

/-- 'laws.FnExactJoinTiles': WHATEVER THE INPUT: true; the input reads as it did. -/
def fnExactJoinTilesSpec : ChangeSpec := { name := "fnExactJoinTiles", fn := fun _ => fun
  | [d1, d2] => { results := [.lit (.bool true)], args := [d1, d2] }
  | _ => none }
def fnExactJoinTilesRow : OpenClaim := { program := "ytkomgmgpgnjooaagreat", sum := "11230d35fafb92013319507b068feba0437c12d4f62ce7f0266a80e5d1b2ae38", func := "loop.example/g03005/laws.FnExactJoinTiles", spec := "fnExactJoinTiles", unfollowed := true, recurses := true, apart := false }
def FnExactJoinTilesSaid : Prop := fnExactJoinTilesRow.holds Tryz.pinned (OpenSpec.ofChange fnExactJoinTilesSpec)

/-- ITS FALSE NEIGHBOUR: 'it returns false'. Refute it at one input. -/
def fnExactJoinTilesWrong : ChangeSpec := { name := "fnExactJoinTiles", fn := fun _ => fun
  | [d1, d2] => { results := [.lit (.bool false)], args := [d1, d2] }
  | _ => none }
def FnExactJoinTilesWrongFalsely : Prop := fnExactJoinTilesRow.holds Tryz.pinned (OpenSpec.ofChange fnExactJoinTilesWrong)

/-- 'laws.FnExactPlaceNames': WHATEVER THE INPUT: true; the input reads as it did. -/
def fnExactPlaceNamesSpec : ChangeSpec := { name := "fnExactPlaceNames", fn := fun _ => fun
  | [d] => { results := [.lit (.bool true)], args := [d] }
  | _ => none }
def fnExactPlaceNamesRow : OpenClaim := { program := "ytkomgmgpgnjooaagreat", sum := "11230d35fafb92013319507b068feba0437c12d4f62ce7f0266a80e5d1b2ae38", func := "loop.example/g03005/laws.FnExactPlaceNames", spec := "fnExactPlaceNames", unfollowed := true, recurses := true, apart := false }
def FnExactPlaceNamesSaid : Prop := fnExactPlaceNamesRow.holds Tryz.pinned (OpenSpec.ofChange fnExactPlaceNamesSpec)

/-- ITS FALSE NEIGHBOUR: 'it returns false'. Refute it at one input. -/
def fnExactPlaceNamesWrong : ChangeSpec := { name := "fnExactPlaceNames", fn := fun _ => fun
  | [d] => { results := [.lit (.bool false)], args := [d] }
  | _ => none }
def FnExactPlaceNamesWrongFalsely : Prop := fnExactPlaceNamesRow.holds Tryz.pinned (OpenSpec.ofChange fnExactPlaceNamesWrong)

/-- 'laws.FnExactUnplaced': WHATEVER THE INPUT: true; the input reads as it did. -/
def fnExactUnplacedSpec : ChangeSpec := { name := "fnExactUnplaced", fn := fun _ => fun
  | [d] => { results := [.lit (.bool true)], args := [d] }
  | _ => none }
def fnExactUnplacedRow : OpenClaim := { program := "ytkomgmgpgnjooaagreat", sum := "11230d35fafb92013319507b068feba0437c12d4f62ce7f0266a80e5d1b2ae38", func := "loop.example/g03005/laws.FnExactUnplaced", spec := "fnExactUnplaced", unfollowed := true, recurses := true, apart := false }
def FnExactUnplacedSaid : Prop := fnExactUnplacedRow.holds Tryz.pinned (OpenSpec.ofChange fnExactUnplacedSpec)

/-- ITS FALSE NEIGHBOUR: 'it returns false'. Refute it at one input. -/
def fnExactUnplacedWrong : ChangeSpec := { name := "fnExactUnplaced", fn := fun _ => fun
  | [d] => { results := [.lit (.bool false)], args := [d] }
  | _ => none }
def FnExactUnplacedWrongFalsely : Prop := fnExactUnplacedRow.holds Tryz.pinned (OpenSpec.ofChange fnExactUnplacedWrong)

/-- 'laws.FnExactShownIds': WHATEVER THE INPUT: true; the input reads as it did. -/
def fnExactShownIdsSpec : ChangeSpec := { name := "fnExactShownIds", fn := fun _ => fun
  | [d1, d2] => { results := [.lit (.bool true)], args := [d1, d2] }
  | _ => none }
def fnExactShownIdsRow : OpenClaim := { program := "ytkomgmgpgnjooaagreat", sum := "11230d35fafb92013319507b068feba0437c12d4f62ce7f0266a80e5d1b2ae38", func := "loop.example/g03005/laws.FnExactShownIds", spec := "fnExactShownIds", unfollowed := true, recurses := true, apart := false }
def FnExactShownIdsSaid : Prop := fnExactShownIdsRow.holds Tryz.pinned (OpenSpec.ofChange fnExactShownIdsSpec)

/-- ITS FALSE NEIGHBOUR: 'it returns false'. Refute it at one input. -/
def fnExactShownIdsWrong : ChangeSpec := { name := "fnExactShownIds", fn := fun _ => fun
  | [d1, d2] => { results := [.lit (.bool false)], args := [d1, d2] }
  | _ => none }
def FnExactShownIdsWrongFalsely : Prop := fnExactShownIdsRow.holds Tryz.pinned (OpenSpec.ofChange fnExactShownIdsWrong)

/- THE SECOND FORM. 'bulk': how many values and letters a reading holds, each counted each time it is reached (what is shared counts as often as it is met; a slice's spare places count too). A statement '..UptoSaid' is the law's where the arguments, and the package variables that the reading takes, are together of bulk at most 1048576: NARROWER than '..Said'. Prove '..Said' where nothing that the law and all that it calls make is longer than what came in: it says more and counts as full. Else prove '..UptoSaid'. A law counts once. -/
mutual
def uptoBulk {H : Type} : DataW H → Nat
  | .lit (.string bytes) => bytes.length + 1
  | .lit _ => 1
  | .nil => 1
  | .ptr d => uptoBulk d + 1
  | .slice elems spare => uptoBulkAll elems + uptoBulkAll spare + 1
  | .agg parts => uptoBulkAll parts + 1
  | .iface _ d => uptoBulk d + 1
  | .map entries => uptoBulkEntries entries + 1
  | .held _ => 1
def uptoBulkAll {H : Type} : List (DataW H) → Nat
  | [] => 0
  | d :: r => uptoBulk d + uptoBulkAll r
def uptoBulkEntries {H : Type} : List (Lit × DataW H) → Nat
  | [] => 0
  | x :: r => uptoBulkEntry x + uptoBulkEntries r
def uptoBulkEntry {H : Type} : Lit × DataW H → Nat
  | (.string bytes, d) => bytes.length + uptoBulk d + 1
  | (_, d) => uptoBulk d + 1
 end
def uptoSmall : (H : Type) → List (DataW H) → Bool := fun _ ds => decide (uptoBulkAll ds ≤ 1048576)
def OpenSpec.upto (s : _root_.Go.ChangeSpec) : _root_.Go.OpenSpec := { _root_.Go.OpenSpec.ofChange s with cond := some uptoSmall }

/-- 'laws.FnExactJoinTiles', WHERE WHAT IT READS IS OF BULK AT MOST 1048576: true; the input reads as it did. -/
def fnExactJoinTilesUptoRow : OpenClaim := { program := "ytkomgmgpgnjooaagreat", sum := "11230d35fafb92013319507b068feba0437c12d4f62ce7f0266a80e5d1b2ae38", func := "loop.example/g03005/laws.FnExactJoinTiles", spec := "fnExactJoinTiles", unfollowed := true, recurses := true, apart := false, narrowed := true }
def FnExactJoinTilesUptoSaid : Prop := fnExactJoinTilesUptoRow.holds Tryz.pinned (OpenSpec.upto fnExactJoinTilesSpec)

/-- 'laws.FnExactPlaceNames', WHERE WHAT IT READS IS OF BULK AT MOST 1048576: true; the input reads as it did. -/
def fnExactPlaceNamesUptoRow : OpenClaim := { program := "ytkomgmgpgnjooaagreat", sum := "11230d35fafb92013319507b068feba0437c12d4f62ce7f0266a80e5d1b2ae38", func := "loop.example/g03005/laws.FnExactPlaceNames", spec := "fnExactPlaceNames", unfollowed := true, recurses := true, apart := false, narrowed := true }
def FnExactPlaceNamesUptoSaid : Prop := fnExactPlaceNamesUptoRow.holds Tryz.pinned (OpenSpec.upto fnExactPlaceNamesSpec)

/-- 'laws.FnExactUnplaced', WHERE WHAT IT READS IS OF BULK AT MOST 1048576: true; the input reads as it did. -/
def fnExactUnplacedUptoRow : OpenClaim := { program := "ytkomgmgpgnjooaagreat", sum := "11230d35fafb92013319507b068feba0437c12d4f62ce7f0266a80e5d1b2ae38", func := "loop.example/g03005/laws.FnExactUnplaced", spec := "fnExactUnplaced", unfollowed := true, recurses := true, apart := false, narrowed := true }
def FnExactUnplacedUptoSaid : Prop := fnExactUnplacedUptoRow.holds Tryz.pinned (OpenSpec.upto fnExactUnplacedSpec)

/-- 'laws.FnExactShownIds', WHERE WHAT IT READS IS OF BULK AT MOST 1048576: true; the input reads as it did. -/
def fnExactShownIdsUptoRow : OpenClaim := { program := "ytkomgmgpgnjooaagreat", sum := "11230d35fafb92013319507b068feba0437c12d4f62ce7f0266a80e5d1b2ae38", func := "loop.example/g03005/laws.FnExactShownIds", spec := "fnExactShownIds", unfollowed := true, recurses := true, apart := false, narrowed := true }
def FnExactShownIdsUptoSaid : Prop := fnExactShownIdsUptoRow.holds Tryz.pinned (OpenSpec.upto fnExactShownIdsSpec)

end Rows
end Go.Proofs.YtkomgmgpgnjooaaGreat
