-- Written by a program of this session's: the kit's print, turned (turnprint.py): functions, and that Go comes to just their answers.
import Derived.Test.YthodhcalknelcaaPFnExactMostNeighboursx0
import Derived.Test.YthodhcalknelcaaPFnExactMostNeighboursx1
import Derived.Test.YthodhcalknelcaaPFnExactMostNeighboursx2
import Derived.Test.YthodhcalknelcaaPFnExactMostNeighboursx3
import Derived.Test.YthodhcalknelcaaPFnExactMostNeighboursx4
import Derived.Test.YthodhcalknelcaaPFnExactMostNeighboursx5
import Derived.Test.YthodhcalknelcaaPFnExactMostNeighboursx6
import Derived.Test.YthodhcalknelcaaPFnExactMostNeighboursx7
import Derived.Test.YthodhcalknelcaaPFnExactMostNeighboursx8
import Derived.Test.YthodhcalknelcaaPFnExactMostNeighboursx9
namespace Go.Proofs.Ythodhcalknelcaa.PFnExactMostNeighbours
open Go.RowKit Go.Proofs.YthodhcalknelcaaW.PrintWords Go.Proofs.YthodhcalknelcaaW.PrintLast Go.Proofs.YthodhcalknelcaaW.PrintMore Go.Proofs.YthodhcalknelcaaGeo Go.Proofs.YthodhcalknelcaaHand
attribute [local go_sem] max2_int min2_int max_two min_two max_three min_three max_four min_four   -- for this text's walks alone
set_option linter.unusedVariables false
set_option linter.unusedSimpArgs false

end Go.Proofs.Ythodhcalknelcaa.PFnExactMostNeighbours
