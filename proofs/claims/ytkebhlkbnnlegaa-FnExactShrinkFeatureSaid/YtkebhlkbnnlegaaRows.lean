/-
  No cell of these rows narrows 'for every input' (looked for: loops, veiled, ifaces, maps, wideKeys, modest, calm, conditions, laid).
  DERIVED. THE GIVEN ROWS OF THIS SEAT. 5 by the template 'for every input the law returns true; each argument reads behind the call as it read before'; 0 by the template 'total and deterministic' (their statements: YtkebhlkbnnlegaaTotals.lean).
  GIVEN WITH THE SEED: the statements are not yours to turn. If you find one false, say at which input.
  Laid BY PROGRAM, IN A SANDBOX (cutbox-rows.mjs): the forced cells as the released guide's own fill.sh prints them over the translation 6fa2c52858b09564… (all of the seat's roots in one cut). By AI agents, Wed Nov 11 2026. No macro, syntax, notation, axiom, sorry.
-/
import Derived.Test.YtkebhlkbnnlegaaChecked
import GoSem.Claim
import GoSem.ClaimJoined
import GoSem.ClaimMapViews
import Derived.JoinedTies
import Derived.KernelRfl
namespace Go.Proofs.Ytkebhlkbnnlegaa
/- THE CELL 'sum', in the pinned program and in every row, IS THE sha256 OF THE DUMP (.gsa) THAT YtkebhlkbnnlegaaProg.lean LOADS. Nothing in Lean hashes anything: it is a label: what it is worth is what the hold of that sum in a sandbox is worth. -/
noncomputable def Try.pinned : Pinned := { name := "ytkebhlkbnnlegaa", sum := "6fa2c52858b0956481f2307ebfe53c3fdee4f5839e88741318c667a1e87b427e", checked := Try.checked }
namespace Rows
def none {H : Type} : Left H := { results := [], args := [] }

/-- 'laws.FnExactDropFrom': WHATEVER THE INPUT: true; the input reads as it did. -/
def fnExactDropFromSpec : ChangeSpec := { name := "fnExactDropFrom", fn := fun _ => fun
  | [d1, d2] => { results := [.lit (.bool true)], args := [d1, d2] }
  | _ => none }
def fnExactDropFromRow : OpenClaim := { program := "ytkebhlkbnnlegaa", sum := "6fa2c52858b0956481f2307ebfe53c3fdee4f5839e88741318c667a1e87b427e", func := "loop.example/g03005/laws.FnExactDropFrom", spec := "fnExactDropFrom", apart := false }
def FnExactDropFromSaid : Prop := fnExactDropFromRow.holds Try.pinned (OpenSpec.ofChange fnExactDropFromSpec)

/-- ITS FALSE NEIGHBOUR: 'it returns false'. Refute it at one input. -/
def fnExactDropFromWrong : ChangeSpec := { name := "fnExactDropFrom", fn := fun _ => fun
  | [d1, d2] => { results := [.lit (.bool false)], args := [d1, d2] }
  | _ => none }
def FnExactDropFromWrongFalsely : Prop := fnExactDropFromRow.holds Try.pinned (OpenSpec.ofChange fnExactDropFromWrong)

/-- 'laws.FnExactCanShrink': WHATEVER THE INPUT: true; the input reads as it did. -/
def fnExactCanShrinkSpec : ChangeSpec := { name := "fnExactCanShrink", fn := fun _ => fun
  | [d1, d2, d3] => { results := [.lit (.bool true)], args := [d1, d2, d3] }
  | _ => none }
def fnExactCanShrinkRow : OpenClaim := { program := "ytkebhlkbnnlegaa", sum := "6fa2c52858b0956481f2307ebfe53c3fdee4f5839e88741318c667a1e87b427e", func := "loop.example/g03005/laws.FnExactCanShrink", spec := "fnExactCanShrink", apart := false }
def FnExactCanShrinkSaid : Prop := fnExactCanShrinkRow.holds Try.pinned (OpenSpec.ofChange fnExactCanShrinkSpec)

/-- ITS FALSE NEIGHBOUR: 'it returns false'. Refute it at one input. -/
def fnExactCanShrinkWrong : ChangeSpec := { name := "fnExactCanShrink", fn := fun _ => fun
  | [d1, d2, d3] => { results := [.lit (.bool false)], args := [d1, d2, d3] }
  | _ => none }
def FnExactCanShrinkWrongFalsely : Prop := fnExactCanShrinkRow.holds Try.pinned (OpenSpec.ofChange fnExactCanShrinkWrong)

/-- 'laws.FnExactShrinkFeature': WHATEVER THE INPUT: true; the input reads as it did. -/
def fnExactShrinkFeatureSpec : ChangeSpec := { name := "fnExactShrinkFeature", fn := fun _ => fun
  | [d1, d2, d3] => { results := [.lit (.bool true)], args := [d1, d2, d3] }
  | _ => none }
def fnExactShrinkFeatureRow : OpenClaim := { program := "ytkebhlkbnnlegaa", sum := "6fa2c52858b0956481f2307ebfe53c3fdee4f5839e88741318c667a1e87b427e", func := "loop.example/g03005/laws.FnExactShrinkFeature", spec := "fnExactShrinkFeature", apart := false }
def FnExactShrinkFeatureSaid : Prop := fnExactShrinkFeatureRow.holds Try.pinned (OpenSpec.ofChange fnExactShrinkFeatureSpec)

/-- ITS FALSE NEIGHBOUR: 'it returns false'. Refute it at one input. -/
def fnExactShrinkFeatureWrong : ChangeSpec := { name := "fnExactShrinkFeature", fn := fun _ => fun
  | [d1, d2, d3] => { results := [.lit (.bool false)], args := [d1, d2, d3] }
  | _ => none }
def FnExactShrinkFeatureWrongFalsely : Prop := fnExactShrinkFeatureRow.holds Try.pinned (OpenSpec.ofChange fnExactShrinkFeatureWrong)

/-- 'laws.FnExactShrinkAll': WHATEVER THE INPUT: true; the input reads as it did. -/
def fnExactShrinkAllSpec : ChangeSpec := { name := "fnExactShrinkAll", fn := fun _ => fun
  | [d1, d2] => { results := [.lit (.bool true)], args := [d1, d2] }
  | _ => none }
def fnExactShrinkAllRow : OpenClaim := { program := "ytkebhlkbnnlegaa", sum := "6fa2c52858b0956481f2307ebfe53c3fdee4f5839e88741318c667a1e87b427e", func := "loop.example/g03005/laws.FnExactShrinkAll", spec := "fnExactShrinkAll", apart := false }
def FnExactShrinkAllSaid : Prop := fnExactShrinkAllRow.holds Try.pinned (OpenSpec.ofChange fnExactShrinkAllSpec)

/-- ITS FALSE NEIGHBOUR: 'it returns false'. Refute it at one input. -/
def fnExactShrinkAllWrong : ChangeSpec := { name := "fnExactShrinkAll", fn := fun _ => fun
  | [d1, d2] => { results := [.lit (.bool false)], args := [d1, d2] }
  | _ => none }
def FnExactShrinkAllWrongFalsely : Prop := fnExactShrinkAllRow.holds Try.pinned (OpenSpec.ofChange fnExactShrinkAllWrong)

/-- 'laws.FnShrunk': WHATEVER THE INPUT: true; the input reads as it did. -/
def fnShrunkSpec : ChangeSpec := { name := "fnShrunk", fn := fun _ => fun
  | [d] => { results := [.lit (.bool true)], args := [d] }
  | _ => none }
def fnShrunkRow : OpenClaim := { program := "ytkebhlkbnnlegaa", sum := "6fa2c52858b0956481f2307ebfe53c3fdee4f5839e88741318c667a1e87b427e", func := "loop.example/g03005/laws.FnShrunk", spec := "fnShrunk", unfollowed := true, recurses := true, apart := false }
def FnShrunkSaid : Prop := fnShrunkRow.holds Try.pinned (OpenSpec.ofChange fnShrunkSpec)

/-- ITS FALSE NEIGHBOUR: 'it returns false'. Refute it at one input. -/
def fnShrunkWrong : ChangeSpec := { name := "fnShrunk", fn := fun _ => fun
  | [d] => { results := [.lit (.bool false)], args := [d] }
  | _ => none }
def FnShrunkWrongFalsely : Prop := fnShrunkRow.holds Try.pinned (OpenSpec.ofChange fnShrunkWrong)

/- THE SECOND FORM. 'bulk': how many values and letters a reading holds, each counted each time it is reached (what is shared counts as often as it is met; a slice's spare places count too). A statement '..UptoSaid' is the law's where the arguments, and the package variables that the reading takes, are together of bulk at most 1048576: NARROWER than '..Said'. Prove '..Said' where nothing that the law and all that it calls make is longer than what came in: it says more and counts as full. Else prove '..UptoSaid'. A law counts once. -/
mutual
def uptoBulk {H : Type} : DataW H → Nat
  | .lit (.string bytes) => bytes.length + 1
  | .lit _ => 1
  | .nil => 1
  | .ptr d => uptoBulk d + 1
  | .slice elems spare => uptoBulkAll elems + uptoBulkAll spare + 1
  | .agg parts => uptoBulkAll parts + 1
  | .iface _ d => uptoBulk d + 1
  | .map entries => uptoBulkEntries entries + 1
  | .held _ => 1
def uptoBulkAll {H : Type} : List (DataW H) → Nat
  | [] => 0
  | d :: r => uptoBulk d + uptoBulkAll r
def uptoBulkEntries {H : Type} : List (Lit × DataW H) → Nat
  | [] => 0
  | x :: r => uptoBulkEntry x + uptoBulkEntries r
def uptoBulkEntry {H : Type} : Lit × DataW H → Nat
  | (.string bytes, d) => bytes.length + uptoBulk d + 1
  | (_, d) => uptoBulk d + 1
 end
def uptoSmall : (H : Type) → List (DataW H) → Bool := fun _ ds => decide (uptoBulkAll ds ≤ 1048576)
def OpenSpec.upto (s : _root_.Go.ChangeSpec) : _root_.Go.OpenSpec := { _root_.Go.OpenSpec.ofChange s with cond := some uptoSmall }

/-- 'laws.FnExactDropFrom', WHERE WHAT IT READS IS OF BULK AT MOST 1048576: true; the input reads as it did. -/
def fnExactDropFromUptoRow : OpenClaim := { program := "ytkebhlkbnnlegaa", sum := "6fa2c52858b0956481f2307ebfe53c3fdee4f5839e88741318c667a1e87b427e", func := "loop.example/g03005/laws.FnExactDropFrom", spec := "fnExactDropFrom", apart := false, narrowed := true }
def FnExactDropFromUptoSaid : Prop := fnExactDropFromUptoRow.holds Try.pinned (OpenSpec.upto fnExactDropFromSpec)

/-- 'laws.FnExactCanShrink', WHERE WHAT IT READS IS OF BULK AT MOST 1048576: true; the input reads as it did. -/
def fnExactCanShrinkUptoRow : OpenClaim := { program := "ytkebhlkbnnlegaa", sum := "6fa2c52858b0956481f2307ebfe53c3fdee4f5839e88741318c667a1e87b427e", func := "loop.example/g03005/laws.FnExactCanShrink", spec := "fnExactCanShrink", apart := false, narrowed := true }
def FnExactCanShrinkUptoSaid : Prop := fnExactCanShrinkUptoRow.holds Try.pinned (OpenSpec.upto fnExactCanShrinkSpec)

/-- 'laws.FnExactShrinkFeature', WHERE WHAT IT READS IS OF BULK AT MOST 1048576: true; the input reads as it did. -/
def fnExactShrinkFeatureUptoRow : OpenClaim := { program := "ytkebhlkbnnlegaa", sum := "6fa2c52858b0956481f2307ebfe53c3fdee4f5839e88741318c667a1e87b427e", func := "loop.example/g03005/laws.FnExactShrinkFeature", spec := "fnExactShrinkFeature", apart := false, narrowed := true }
def FnExactShrinkFeatureUptoSaid : Prop := fnExactShrinkFeatureUptoRow.holds Try.pinned (OpenSpec.upto fnExactShrinkFeatureSpec)

/-- 'laws.FnExactShrinkAll', WHERE WHAT IT READS IS OF BULK AT MOST 1048576: true; the input reads as it did. -/
def fnExactShrinkAllUptoRow : OpenClaim := { program := "ytkebhlkbnnlegaa", sum := "6fa2c52858b0956481f2307ebfe53c3fdee4f5839e88741318c667a1e87b427e", func := "loop.example/g03005/laws.FnExactShrinkAll", spec := "fnExactShrinkAll", apart := false, narrowed := true }
def FnExactShrinkAllUptoSaid : Prop := fnExactShrinkAllUptoRow.holds Try.pinned (OpenSpec.upto fnExactShrinkAllSpec)

/-- 'laws.FnShrunk', WHERE WHAT IT READS IS OF BULK AT MOST 1048576: true; the input reads as it did. -/
def fnShrunkUptoRow : OpenClaim := { program := "ytkebhlkbnnlegaa", sum := "6fa2c52858b0956481f2307ebfe53c3fdee4f5839e88741318c667a1e87b427e", func := "loop.example/g03005/laws.FnShrunk", spec := "fnShrunk", unfollowed := true, recurses := true, apart := false, narrowed := true }
def FnShrunkUptoSaid : Prop := fnShrunkUptoRow.holds Try.pinned (OpenSpec.upto fnShrunkSpec)

end Rows
end Go.Proofs.Ytkebhlkbnnlegaa
