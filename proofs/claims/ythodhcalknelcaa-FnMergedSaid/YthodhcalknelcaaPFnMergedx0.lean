-- Written by a program of this session's: the kit's print, turned (turnprint.py): functions, and that Go comes to just their answers.
import Derived.Test.YthodhcalknelcaaZ
import Derived.Test.YthodhcalknelcaaProg
import Derived.Below
import Derived.Deep.Draws
import Derived.Deep.AppendLies
import Derived.Maps.AppendAt
import Derived.OwnWalk
import Derived.Laws.BytesArg
import Derived.Laws.MakeOwn
import Derived.Laws.OwnMore
import Derived.Deep.OwnRows
import Derived.Tactics
import Derived.Lib.ConvBytes
import Derived.Laws.Slices
import Derived.WalkKit
import Derived.KernelRfl
import Derived.RowKit3
import Derived.Deep.LoopGhost
import Derived.Deep.QuietTactic
import Derived.BigQuiet
import Derived.WideLaws
import Derived.Deep.DeepCutAuto
import Derived.Deep.CutBlock
import Derived.Deep.RegionHeld3
import Derived.Laws.Rows
import Derived.Lib.AppendStr
import Derived.ArgAppend
import Derived.Laws.IdiomCopy
import Derived.OrdersHeld
import Derived.Laws.BitsLemmas
import Derived.RowKit
import Derived.Test.YthodhcalknelcaaGeo
import Derived.Test.YthodhcalknelcaaHand
import Derived.Test.YthodhcalknelcaaIdiom
import Derived.Test.YthodhcalknelcaaShelf
import Derived.Test.YthodhcalknelcaaWWords
import Derived.Test.YthodhcalknelcaaWLast
import Derived.Test.YthodhcalknelcaaWTab
import Derived.Test.YthodhcalknelcaaWFour
import Derived.Test.YthodhcalknelcaaWQPut
import Derived.Test.YthodhcalknelcaaWApart
import Derived.Test.YthodhcalknelcaaWArr
import Derived.Test.YthodhcalknelcaaWZeros
import Derived.Test.YthodhcalknelcaaWFoot
import Derived.Test.YthodhcalknelcaaWKept
import Derived.Test.YthodhcalknelcaaWShare
import Derived.Test.YthodhcalknelcaaWN
import Derived.Test.YthodhcalknelcaaWFootNe
import Derived.Test.YthodhcalknelcaaWAt
import Derived.Test.YthodhcalknelcaaWEqStruct
import Derived.Test.YthodhcalknelcaaWRepsOne
import Derived.Test.YthodhcalknelcaaWInv
import Derived.Test.YthodhcalknelcaaWInvWords
import Derived.Test.YthodhcalknelcaaWGuard
import Derived.Test.YthodhcalknelcaaWNEv
import Derived.Test.YthodhcalknelcaaWMore
namespace Go.Proofs.Ythodhcalknelcaa.PFnMerged
open Go.RowKit Go.Proofs.YthodhcalknelcaaW.PrintWords Go.Proofs.YthodhcalknelcaaW.PrintLast Go.Proofs.YthodhcalknelcaaW.PrintMore Go.Proofs.YthodhcalknelcaaGeo Go.Proofs.YthodhcalknelcaaHand Go.Proofs.YthodhcalknelcaaZ
attribute [local go_sem] max2_int min2_int max_two min_two max_three min_three max_four min_four   -- for this text's walks alone
set_option linter.unusedVariables false
set_option linter.unusedSimpArgs false



def errW : Option Int → Value
  | none => .nilIface
  | some c => .iface 0 (.int .i64 c)
theorem errW_none : errW none = .nilIface := rfl
theorem errW_some (c : Int) : errW (some c) = .iface 0 (.int .i64 c) := rfl

theorem info3 : (Try.prog.info? 3).map (fun i => (i.zero, i.size, i.bytes)) = some (some (.int .i64 0), 1, 8) := by kernel_rfl
theorem info9 : (Try.prog.info? 9).map (fun i => (i.zero, i.size, i.bytes)) = some (some (.string ⟨#[]⟩), 1, 16) := by kernel_rfl
-- the values' own types

end Go.Proofs.Ythodhcalknelcaa.PFnMerged
