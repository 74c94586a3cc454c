-- Written by a program of this session's: the kit's print, turned (turnprint.py): functions, and that Go comes to just their answers.
import Derived.Test.YthodhcalknelcaaPFnExactRegionsOfx0
import Derived.Test.YthodhcalknelcaaPFnExactRegionsOfx1
import Derived.Test.YthodhcalknelcaaPFnExactRegionsOfx2
import Derived.Test.YthodhcalknelcaaPFnExactRegionsOfx3
import Derived.Test.YthodhcalknelcaaPFnExactRegionsOfx4
import Derived.Test.YthodhcalknelcaaPFnExactRegionsOfx5
import Derived.Test.YthodhcalknelcaaPFnExactRegionsOfx6
namespace Go.Proofs.Ythodhcalknelcaa.PFnExactRegionsOf
open Go.RowKit Go.Proofs.YthodhcalknelcaaW.PrintWords Go.Proofs.YthodhcalknelcaaW.PrintLast Go.Proofs.YthodhcalknelcaaW.PrintMore Go.Proofs.YthodhcalknelcaaGeo Go.Proofs.YthodhcalknelcaaHand
attribute [local go_sem] max2_int min2_int max_two min_two max_three min_three max_four min_four   -- for this text's walks alone
set_option linter.unusedVariables false
set_option linter.unusedSimpArgs false

end Go.Proofs.Ythodhcalknelcaa.PFnExactRegionsOf
