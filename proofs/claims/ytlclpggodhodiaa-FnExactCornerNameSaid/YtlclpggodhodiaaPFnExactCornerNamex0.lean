-- Written by a program of this session's: the kit's print, turned (turnprint.py): functions, and that Go comes to just their answers.
import Derived.Test.YtlclpggodhodiaaProg
import Derived.Below
import Derived.Deep.Draws
import Derived.Deep.AppendLies
import Derived.Maps.AppendAt
import Derived.OwnWalk
import Derived.Laws.BytesArg
import Derived.Laws.MakeOwn
import Derived.Laws.OwnMore
import Derived.Deep.OwnRows
import Derived.Tactics
import Derived.Lib.ConvBytes
import Derived.Laws.Slices
import Derived.WalkKit
import Derived.KernelRfl
import Derived.RowKit3
import Derived.Deep.LoopGhost
import Derived.Deep.QuietTactic
import Derived.BigQuiet
import Derived.WideLaws
import Derived.Deep.DeepCutAuto
import Derived.Deep.CutBlock
import Derived.Deep.RegionHeld3
import Derived.Laws.Rows
import Derived.Lib.AppendStr
import Derived.ArgAppend
import Derived.Laws.IdiomCopy
import Derived.OrdersHeld
import Derived.Laws.BitsLemmas
import Derived.RowKit
import Derived.Test.YtlclpggodhodiaaGeo
import Derived.Test.YtlclpggodhodiaaHand
import Derived.Test.YtlclpggodhodiaaWWords
import Derived.Test.YtlclpggodhodiaaWLast
import Derived.Test.YtlclpggodhodiaaWTab
import Derived.Test.YtlclpggodhodiaaWFour
import Derived.Test.YtlclpggodhodiaaWQPut
import Derived.Test.YtlclpggodhodiaaWApart
import Derived.Test.YtlclpggodhodiaaWArr
import Derived.Test.YtlclpggodhodiaaWZeros
import Derived.Test.YtlclpggodhodiaaWFoot
import Derived.Test.YtlclpggodhodiaaWKept
import Derived.Test.YtlclpggodhodiaaWShare
import Derived.Test.YtlclpggodhodiaaWN
import Derived.Test.YtlclpggodhodiaaWFootNe
import Derived.Test.YtlclpggodhodiaaWAt
import Derived.Test.YtlclpggodhodiaaWEqStruct
import Derived.Test.YtlclpggodhodiaaWRepsOne
import Derived.Test.YtlclpggodhodiaaWInv
import Derived.Test.YtlclpggodhodiaaWInvWords
import Derived.Test.YtlclpggodhodiaaWGuard
import Derived.Test.YtlclpggodhodiaaWNEv
import Derived.Test.YtlclpggodhodiaaWMore
namespace Go.Proofs.Ytlclpggodhodiaa.PFnExactCornerName
open Go.RowKit Go.Proofs.YtlclpggodhodiaaW.PrintWords Go.Proofs.YtlclpggodhodiaaW.PrintLast Go.Proofs.YtlclpggodhodiaaW.PrintMore Go.Proofs.YtlclpggodhodiaaGeo Go.Proofs.YtlclpggodhodiaaHand
attribute [local go_sem] max2_int min2_int max_two min_two max_three min_three max_four min_four   -- for this text's walks alone
set_option linter.unusedVariables false
set_option linter.unusedSimpArgs false



def errW : Option Int → Value
  | none => .nilIface
  | some c => .iface 0 (.int .i64 c)
theorem errW_none : errW none = .nilIface := rfl
theorem errW_some (c : Int) : errW (some c) = .iface 0 (.int .i64 c) := rfl

theorem info9 : (Try.prog.info? 9).map (fun i => (i.zero, i.size, i.bytes)) = some (some (.string ⟨#[]⟩), 1, 16) := by kernel_rfl
-- the values' own types

end Go.Proofs.Ytlclpggodhodiaa.PFnExactCornerName
