-- PRINTED BY print.sh 35421559b90ae4d0a3588c463048766b98c2df88dd9212a6774a882060cdf62d: not written by this session
import Derived.Test.YtlclpggodhodiaaPFnExactAreApartx0
import Derived.Test.YtlclpggodhodiaaPFnExactAreApartx1
import Derived.Test.YtlclpggodhodiaaPFnExactAreApartx2
import Derived.Test.YtlclpggodhodiaaPFnExactAreApartx3
import Derived.Test.YtlclpggodhodiaaPFnExactAreApartx4
import Derived.Test.YtlclpggodhodiaaPFnExactAreApartx5
namespace Go.Proofs.Ytlclpggodhodiaa.PFnExactAreApart
open Go.RowKit Go.Proofs.YtlclpggodhodiaaW.PrintWords Go.Proofs.YtlclpggodhodiaaW.PrintLast Go.Proofs.YtlclpggodhodiaaW.PrintMore
attribute [local go_sem] max2_int min2_int max_two min_two max_three min_three max_four min_four   -- for this text's walks alone
set_option linter.unusedVariables false
set_option linter.unusedSimpArgs false

end Go.Proofs.Ytlclpggodhodiaa.PFnExactAreApart
