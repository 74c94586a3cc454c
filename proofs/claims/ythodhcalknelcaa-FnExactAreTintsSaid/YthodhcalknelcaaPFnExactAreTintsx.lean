-- Written by a program of this session's: the kit's print, turned (turnprint.py): functions, and that Go comes to just their answers.
import Derived.Test.YthodhcalknelcaaPFnExactAreTintsx0
import Derived.Test.YthodhcalknelcaaPFnExactAreTintsx1
import Derived.Test.YthodhcalknelcaaPFnExactAreTintsx2
import Derived.Test.YthodhcalknelcaaPFnExactAreTintsx3
import Derived.Test.YthodhcalknelcaaPFnExactAreTintsx4
import Derived.Test.YthodhcalknelcaaPFnExactAreTintsx5
import Derived.Test.YthodhcalknelcaaPFnExactAreTintsx6
import Derived.Test.YthodhcalknelcaaPFnExactAreTintsx7
import Derived.Test.YthodhcalknelcaaPFnExactAreTintsx8
import Derived.Test.YthodhcalknelcaaPFnExactAreTintsx9
import Derived.Test.YthodhcalknelcaaPFnExactAreTintsx10
import Derived.Test.YthodhcalknelcaaPFnExactAreTintsx11
import Derived.Test.YthodhcalknelcaaPFnExactAreTintsx12
namespace Go.Proofs.Ythodhcalknelcaa.PFnExactAreTints
open Go.RowKit Go.Proofs.YthodhcalknelcaaW.PrintWords Go.Proofs.YthodhcalknelcaaW.PrintLast Go.Proofs.YthodhcalknelcaaW.PrintMore Go.Proofs.YthodhcalknelcaaGeo Go.Proofs.YthodhcalknelcaaHand
attribute [local go_sem] max2_int min2_int max_two min_two max_three min_three max_four min_four   -- for this text's walks alone
set_option linter.unusedVariables false
set_option linter.unusedSimpArgs false

end Go.Proofs.Ythodhcalknelcaa.PFnExactAreTints
