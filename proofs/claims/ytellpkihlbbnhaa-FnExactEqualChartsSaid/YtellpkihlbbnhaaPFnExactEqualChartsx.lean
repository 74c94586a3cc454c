-- Written by a program of this session's: the kit's print, turned (turnprint.py): functions, and that Go comes to just their answers.
import Derived.Test.YtellpkihlbbnhaaPFnExactEqualChartsx0
import Derived.Test.YtellpkihlbbnhaaPFnExactEqualChartsx1
import Derived.Test.YtellpkihlbbnhaaPFnExactEqualChartsx2
import Derived.Test.YtellpkihlbbnhaaPFnExactEqualChartsx3
import Derived.Test.YtellpkihlbbnhaaPFnExactEqualChartsx4
import Derived.Test.YtellpkihlbbnhaaPFnExactEqualChartsx5
import Derived.Test.YtellpkihlbbnhaaPFnExactEqualChartsx6
import Derived.Test.YtellpkihlbbnhaaPFnExactEqualChartsx7
import Derived.Test.YtellpkihlbbnhaaPFnExactEqualChartsx8
import Derived.Test.YtellpkihlbbnhaaPFnExactEqualChartsx9
import Derived.Test.YtellpkihlbbnhaaPFnExactEqualChartsx10
namespace Go.Proofs.Ytellpkihlbbnhaa.PFnExactEqualCharts
open Go.RowKit Go.Proofs.YtellpkihlbbnhaaW.PrintWords Go.Proofs.YtellpkihlbbnhaaW.PrintLast Go.Proofs.YtellpkihlbbnhaaW.PrintMore Go.Proofs.YtellpkihlbbnhaaGeo Go.Proofs.YtellpkihlbbnhaaHand
attribute [local go_sem] max2_int min2_int max_two min_two max_three min_three max_four min_four   -- for this text's walks alone
set_option linter.unusedVariables false
set_option linter.unusedSimpArgs false

end Go.Proofs.Ytellpkihlbbnhaa.PFnExactEqualCharts
