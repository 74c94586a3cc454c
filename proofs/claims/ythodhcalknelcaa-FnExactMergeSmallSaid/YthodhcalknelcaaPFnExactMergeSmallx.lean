-- Written by a program of this session's: the kit's print, turned (turnprint.py): functions, and that Go comes to just their answers.
import Derived.Test.YthodhcalknelcaaPFnExactMergeSmallx0
import Derived.Test.YthodhcalknelcaaPFnExactMergeSmallx1
import Derived.Test.YthodhcalknelcaaPFnExactMergeSmallx2
import Derived.Test.YthodhcalknelcaaPFnExactMergeSmallx3
import Derived.Test.YthodhcalknelcaaPFnExactMergeSmallx4
import Derived.Test.YthodhcalknelcaaPFnExactMergeSmallx5
import Derived.Test.YthodhcalknelcaaPFnExactMergeSmallx6
import Derived.Test.YthodhcalknelcaaPFnExactMergeSmallx7
import Derived.Test.YthodhcalknelcaaPFnExactMergeSmallx8
import Derived.Test.YthodhcalknelcaaPFnExactMergeSmallx9
import Derived.Test.YthodhcalknelcaaPFnExactMergeSmallx10
import Derived.Test.YthodhcalknelcaaPFnExactMergeSmallx11
import Derived.Test.YthodhcalknelcaaPFnExactMergeSmallx12
import Derived.Test.YthodhcalknelcaaPFnExactMergeSmallx13
namespace Go.Proofs.Ythodhcalknelcaa.PFnExactMergeSmall
open Go.RowKit Go.Proofs.YthodhcalknelcaaW.PrintWords Go.Proofs.YthodhcalknelcaaW.PrintLast Go.Proofs.YthodhcalknelcaaW.PrintMore Go.Proofs.YthodhcalknelcaaGeo Go.Proofs.YthodhcalknelcaaHand
attribute [local go_sem] max2_int min2_int max_two min_two max_three min_three max_four min_four   -- for this text's walks alone
set_option linter.unusedVariables false
set_option linter.unusedSimpArgs false

end Go.Proofs.Ythodhcalknelcaa.PFnExactMergeSmall
