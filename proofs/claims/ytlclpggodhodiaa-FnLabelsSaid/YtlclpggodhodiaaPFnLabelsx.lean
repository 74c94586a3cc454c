-- Written by a program of this session's: the kit's print, turned (turnprint.py): functions, and that Go comes to just their answers.
import Derived.Test.YtlclpggodhodiaaPFnLabelsx0
import Derived.Test.YtlclpggodhodiaaPFnLabelsx1
import Derived.Test.YtlclpggodhodiaaPFnLabelsx2
import Derived.Test.YtlclpggodhodiaaPFnLabelsx3
import Derived.Test.YtlclpggodhodiaaPFnLabelsx4
import Derived.Test.YtlclpggodhodiaaPFnLabelsx5
import Derived.Test.YtlclpggodhodiaaPFnLabelsx6
import Derived.Test.YtlclpggodhodiaaPFnLabelsx7
namespace Go.Proofs.Ytlclpggodhodiaa.PFnLabels
open Go.RowKit Go.Proofs.YtlclpggodhodiaaW.PrintWords Go.Proofs.YtlclpggodhodiaaW.PrintLast Go.Proofs.YtlclpggodhodiaaW.PrintMore Go.Proofs.YtlclpggodhodiaaGeo Go.Proofs.YtlclpggodhodiaaHand
attribute [local go_sem] max2_int min2_int max_two min_two max_three min_three max_four min_four   -- for this text's walks alone
set_option linter.unusedVariables false
set_option linter.unusedSimpArgs false

end Go.Proofs.Ytlclpggodhodiaa.PFnLabels
