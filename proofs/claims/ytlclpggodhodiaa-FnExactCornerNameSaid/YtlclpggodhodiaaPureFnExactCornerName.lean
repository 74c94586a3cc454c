/- The name of a corner: the program's array and the reference's slice hold the same four words. No condition. -/
import Derived.Test.YtlclpggodhodiaaPFnExactCornerNamex
namespace Go.Proofs.Ytlclpggodhodiaa.Pure.FnExactCornerName
open Go Go.RowKit Go.Proofs.Ytlclpggodhodiaa.PFnExactCornerName Go.Proofs.YtlclpggodhodiaaW.PrintWords Go.Proofs.YtlclpggodhodiaaW.PrintLast Go.Proofs.YtlclpggodhodiaaW.PrintMore Go.Proofs.YtlclpggodhodiaaGeo
set_option linter.unusedVariables false
set_option linter.unusedSimpArgs false
theorem main : ∀ (a0 : Int), (Lit.int .i64 a0).wf = true → laws_FnExactCornerName.f a0 = some true := by
  intro a _
  unfold laws_FnExactCornerName.f spec_CornerName.f impl_CornerName.f spec_l1In.f
  by_cases h : 0 ≤ a ∧ a ≤ 3
  · have hin : inR a 0 3 = true := by simp [inR]; omega
    have hl : a < ((cornerL.length : Nat) : Int) := by show a < 4; omega
    have hn : cornerN a = rdOf ByteArray.empty cornerL a := by unfold cornerN; rw [if_neg (by omega), if_neg (by omega)]
    simp only [hin, Option.bind_some, if_true, if_pos h.1, hn]
    show ((if a < ((cornerL.length : Nat) : Int) then some (rdOf ByteArray.empty cornerL a) else none).bind fun t106 => if (rdOf ByteArray.empty cornerL a).toList = t106.toList then some true else some false) = some true
    rw [if_pos hl]
    simp
  · have hin : inR a 0 3 = false := by simp [inR]; omega
    have hn : cornerN a = (⟨#[]⟩ : ByteArray) := by
      unfold cornerN
      by_cases h0 : a < 0
      · rw [if_pos h0]
      · rw [if_neg h0, if_pos (by omega)]
    simp only [hin, Option.bind_some, Bool.false_eq_true, if_false, hn, if_true]
end Go.Proofs.Ytlclpggodhodiaa.Pure.FnExactCornerName
