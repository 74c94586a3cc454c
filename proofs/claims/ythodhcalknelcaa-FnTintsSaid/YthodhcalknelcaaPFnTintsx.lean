-- Written by a program of this session's: the kit's print, turned (turnprint.py): functions, and that Go comes to just their answers.
import Derived.Test.YthodhcalknelcaaPFnTintsx0
import Derived.Test.YthodhcalknelcaaPFnTintsx1
import Derived.Test.YthodhcalknelcaaPFnTintsx2
import Derived.Test.YthodhcalknelcaaPFnTintsx3
import Derived.Test.YthodhcalknelcaaPFnTintsx4
import Derived.Test.YthodhcalknelcaaPFnTintsx5
import Derived.Test.YthodhcalknelcaaPFnTintsx6
import Derived.Test.YthodhcalknelcaaPFnTintsx7
import Derived.Test.YthodhcalknelcaaPFnTintsx8
namespace Go.Proofs.Ythodhcalknelcaa.PFnTints
open Go.RowKit Go.Proofs.YthodhcalknelcaaW.PrintWords Go.Proofs.YthodhcalknelcaaW.PrintLast Go.Proofs.YthodhcalknelcaaW.PrintMore Go.Proofs.YthodhcalknelcaaGeo Go.Proofs.YthodhcalknelcaaHand
attribute [local go_sem] max2_int min2_int max_two min_two max_three min_three max_four min_four   -- for this text's walks alone
set_option linter.unusedVariables false
set_option linter.unusedSimpArgs false

end Go.Proofs.Ythodhcalknelcaa.PFnTints
