-- Written by a program of this session's: the kit's print, turned (turnprint.py): functions, and that Go comes to just their answers.
import Derived.Test.YthodhcalknelcaaPFnExactTintsOfx0
import Derived.Test.YthodhcalknelcaaPFnExactTintsOfx1
import Derived.Test.YthodhcalknelcaaPFnExactTintsOfx2
import Derived.Test.YthodhcalknelcaaPFnExactTintsOfx3
import Derived.Test.YthodhcalknelcaaPFnExactTintsOfx4
import Derived.Test.YthodhcalknelcaaPFnExactTintsOfx5
import Derived.Test.YthodhcalknelcaaPFnExactTintsOfx6
import Derived.Test.YthodhcalknelcaaPFnExactTintsOfx7
import Derived.Test.YthodhcalknelcaaPFnExactTintsOfx8
import Derived.Test.YthodhcalknelcaaPFnExactTintsOfx9
import Derived.Test.YthodhcalknelcaaPFnExactTintsOfx10
import Derived.Test.YthodhcalknelcaaPFnExactTintsOfx11
namespace Go.Proofs.Ythodhcalknelcaa.PFnExactTintsOf
open Go.RowKit Go.Proofs.YthodhcalknelcaaW.PrintWords Go.Proofs.YthodhcalknelcaaW.PrintLast Go.Proofs.YthodhcalknelcaaW.PrintMore Go.Proofs.YthodhcalknelcaaGeo Go.Proofs.YthodhcalknelcaaHand
attribute [local go_sem] max2_int min2_int max_two min_two max_three min_three max_four min_four   -- for this text's walks alone
set_option linter.unusedVariables false
set_option linter.unusedSimpArgs false

end Go.Proofs.Ythodhcalknelcaa.PFnExactTintsOf
