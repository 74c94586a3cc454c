-- Written by a program of this session's: the kit's print, turned (turnprint.py): functions, and that Go comes to just their answers.
import Derived.Test.YthodhcalknelcaaPFnExactTintOfx0
import Derived.Test.YthodhcalknelcaaPFnExactTintOfx1
import Derived.Test.YthodhcalknelcaaPFnExactTintOfx2
import Derived.Test.YthodhcalknelcaaPFnExactTintOfx3
import Derived.Test.YthodhcalknelcaaPFnExactTintOfx4
import Derived.Test.YthodhcalknelcaaPFnExactTintOfx5
import Derived.Test.YthodhcalknelcaaPFnExactTintOfx6
import Derived.Test.YthodhcalknelcaaPFnExactTintOfx7
import Derived.Test.YthodhcalknelcaaPFnExactTintOfx8
import Derived.Test.YthodhcalknelcaaPFnExactTintOfx9
import Derived.Test.YthodhcalknelcaaPFnExactTintOfx10
import Derived.Test.YthodhcalknelcaaPFnExactTintOfx11
import Derived.Test.YthodhcalknelcaaPFnExactTintOfx12
namespace Go.Proofs.Ythodhcalknelcaa.PFnExactTintOf
open Go.RowKit Go.Proofs.YthodhcalknelcaaW.PrintWords Go.Proofs.YthodhcalknelcaaW.PrintLast Go.Proofs.YthodhcalknelcaaW.PrintMore Go.Proofs.YthodhcalknelcaaGeo Go.Proofs.YthodhcalknelcaaHand
attribute [local go_sem] max2_int min2_int max_two min_two max_three min_three max_four min_four   -- for this text's walks alone
set_option linter.unusedVariables false
set_option linter.unusedSimpArgs false

end Go.Proofs.Ythodhcalknelcaa.PFnExactTintOf
