-- Written by a program of this session's: the kit's print, turned (turnprint.py): functions, and that Go comes to just their answers.
import Derived.Test.YthodhcalknelcaaPFnExactLongestNeighbourx0
import Derived.Test.YthodhcalknelcaaPFnExactLongestNeighbourx1
import Derived.Test.YthodhcalknelcaaPFnExactLongestNeighbourx2
import Derived.Test.YthodhcalknelcaaPFnExactLongestNeighbourx3
import Derived.Test.YthodhcalknelcaaPFnExactLongestNeighbourx4
import Derived.Test.YthodhcalknelcaaPFnExactLongestNeighbourx5
import Derived.Test.YthodhcalknelcaaPFnExactLongestNeighbourx6
import Derived.Test.YthodhcalknelcaaPFnExactLongestNeighbourx7
import Derived.Test.YthodhcalknelcaaPFnExactLongestNeighbourx8
import Derived.Test.YthodhcalknelcaaPFnExactLongestNeighbourx9
import Derived.Test.YthodhcalknelcaaPFnExactLongestNeighbourx10
import Derived.Test.YthodhcalknelcaaPFnExactLongestNeighbourx11
namespace Go.Proofs.Ythodhcalknelcaa.PFnExactLongestNeighbour
open Go.RowKit Go.Proofs.YthodhcalknelcaaW.PrintWords Go.Proofs.YthodhcalknelcaaW.PrintLast Go.Proofs.YthodhcalknelcaaW.PrintMore Go.Proofs.YthodhcalknelcaaGeo Go.Proofs.YthodhcalknelcaaHand
attribute [local go_sem] max2_int min2_int max_two min_two max_three min_three max_four min_four   -- for this text's walks alone
set_option linter.unusedVariables false
set_option linter.unusedSimpArgs false

end Go.Proofs.Ythodhcalknelcaa.PFnExactLongestNeighbour
