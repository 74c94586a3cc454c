-- Written by a program of this session's: the kit's print, turned (turnprint.py): functions, and that Go comes to just their answers.
import Derived.Test.YtellpkihlbbnhaaZ
import Derived.Test.YtellpkihlbbnhaaPFnExactEqualChartsx0
namespace Go.Proofs.Ytellpkihlbbnhaa.PFnExactEqualCharts
open Go.RowKit Go.Proofs.YtellpkihlbbnhaaW.PrintWords Go.Proofs.YtellpkihlbbnhaaW.PrintLast Go.Proofs.YtellpkihlbbnhaaW.PrintMore Go.Proofs.YtellpkihlbbnhaaGeo Go.Proofs.YtellpkihlbbnhaaHand Go.Proofs.YtellpkihlbbnhaaZ
attribute [local go_sem] max2_int min2_int max_two min_two max_three min_three max_four min_four   -- for this text's walks alone
set_option linter.unusedVariables false
set_option linter.unusedSimpArgs false

theorem eqA38 (d : Nat) (w : World) (x0 y0 : Int) (x1 y1 : Int) :
    (Op.equalIn (d + 2) 38 (.agg #[.int .i64 x0, .int .i64 x1]) (.agg #[.int .i64 y0, .int .i64 y1])).run Try.prog w = .ok (x0 == y0 && (x1 == y1)) w := by
  refine eqA_of Try.underlying38 (by kernel_rfl) ?_; refine eqf_cons (by rfl) (by go_simp; rfl) (by go_simp; rfl) (by go_simp) ?_
  exact eqf_last (by rfl) (by go_simp; rfl) (by go_simp; rfl) (by go_simp)
end Go.Proofs.Ytellpkihlbbnhaa.PFnExactEqualCharts
