-- Written by a program of this session's: the kit's print, turned (turnprint.py): functions, and that Go comes to just their answers.
import Derived.Test.YthodhcalknelcaaPFnMergedx0
import Derived.Test.YthodhcalknelcaaPFnMergedx1
import Derived.Test.YthodhcalknelcaaPFnMergedx2
import Derived.Test.YthodhcalknelcaaPFnMergedx3
import Derived.Test.YthodhcalknelcaaPFnMergedx4
import Derived.Test.YthodhcalknelcaaPFnMergedx5
import Derived.Test.YthodhcalknelcaaPFnMergedx6
import Derived.Test.YthodhcalknelcaaPFnMergedx7
import Derived.Test.YthodhcalknelcaaPFnMergedx8
import Derived.Test.YthodhcalknelcaaPFnMergedx9
import Derived.Test.YthodhcalknelcaaPFnMergedx10
import Derived.Test.YthodhcalknelcaaPFnMergedx11
import Derived.Test.YthodhcalknelcaaPFnMergedx12
import Derived.Test.YthodhcalknelcaaPFnMergedx13
namespace Go.Proofs.Ythodhcalknelcaa.PFnMerged
open Go.RowKit Go.Proofs.YthodhcalknelcaaW.PrintWords Go.Proofs.YthodhcalknelcaaW.PrintLast Go.Proofs.YthodhcalknelcaaW.PrintMore Go.Proofs.YthodhcalknelcaaGeo Go.Proofs.YthodhcalknelcaaHand
attribute [local go_sem] max2_int min2_int max_two min_two max_three min_three max_four min_four   -- for this text's walks alone
set_option linter.unusedVariables false
set_option linter.unusedSimpArgs false

end Go.Proofs.Ythodhcalknelcaa.PFnMerged
