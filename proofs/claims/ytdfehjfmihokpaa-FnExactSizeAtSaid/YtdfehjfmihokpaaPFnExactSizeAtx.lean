-- Written by a program of this session's: the kit's print, turned (turnprint.py): functions, and that Go comes to just their answers.
import Derived.Test.YtdfehjfmihokpaaPFnExactSizeAtx0
import Derived.Test.YtdfehjfmihokpaaPFnExactSizeAtx1
import Derived.Test.YtdfehjfmihokpaaPFnExactSizeAtx2
import Derived.Test.YtdfehjfmihokpaaPFnExactSizeAtx3
import Derived.Test.YtdfehjfmihokpaaPFnExactSizeAtx4
import Derived.Test.YtdfehjfmihokpaaPFnExactSizeAtx5
import Derived.Test.YtdfehjfmihokpaaPFnExactSizeAtx6
import Derived.Test.YtdfehjfmihokpaaPFnExactSizeAtx7
import Derived.Test.YtdfehjfmihokpaaPFnExactSizeAtx8
import Derived.Test.YtdfehjfmihokpaaPFnExactSizeAtx9
import Derived.Test.YtdfehjfmihokpaaPFnExactSizeAtx10
import Derived.Test.YtdfehjfmihokpaaPFnExactSizeAtx11
import Derived.Test.YtdfehjfmihokpaaPFnExactSizeAtx12
import Derived.Test.YtdfehjfmihokpaaPFnExactSizeAtx13
import Derived.Test.YtdfehjfmihokpaaPFnExactSizeAtx14
import Derived.Test.YtdfehjfmihokpaaPFnExactSizeAtx15
import Derived.Test.YtdfehjfmihokpaaPFnExactSizeAtx16
namespace Go.Proofs.Ytdfehjfmihokpaa.PFnExactSizeAt
open Go.RowKit Go.Proofs.YtdfehjfmihokpaaW.PrintWords Go.Proofs.YtdfehjfmihokpaaW.PrintLast Go.Proofs.YtdfehjfmihokpaaW.PrintMore Go.Proofs.YtdfehjfmihokpaaGeo Go.Proofs.YtdfehjfmihokpaaHand
attribute [local go_sem] max2_int min2_int max_two min_two max_three min_three max_four min_four   -- for this text's walks alone
set_option linter.unusedVariables false
set_option linter.unusedSimpArgs false

end Go.Proofs.Ytdfehjfmihokpaa.PFnExactSizeAt
