/- FnExactCornerName: the row over the printed walk: for every input the law returns true and each argument reads afterwards as it did. No condition. Written by rowgen.py (a program of this session's). -/
import Derived.Test.YtlclpggodhodiaaRows
import Derived.Test.YtlclpggodhodiaaFacts
import Derived.Test.YtlclpggodhodiaaPFnExactCornerNamex
import Derived.Test.YtlclpggodhodiaaOpen
import Derived.Test.YtlclpggodhodiaaPureFnExactCornerName
import Derived.WalkKit
import Derived.ProofKit
import Derived.OpenShut
import Derived.ShutString
import Derived.ChangeOld
import Derived.Below
import Derived.SizedLaws
namespace Go.Proofs.Ytlclpggodhodiaa.fnExactCornerName
open Go.ChangeShapes Go.WideShapes Go.ChangeAt Go.RowKit
open Go.ChangeMaps (open_string shut_string)
open Go.Proofs.YtlclpggodhodiaaOpen Go.Proofs.Ytlclpggodhodiaa.PFnExactCornerName Go.Proofs.YtlclpggodhodiaaW.PrintWords
set_option linter.unusedVariables false
set_option linter.unusedSimpArgs false
theorem own : ownKnob Try.prog.godebug = none := by kernel_rfl
theorem laidOut : laidOutB Try.prog = true := by kernel_rfl
theorem okTypes : ∀ t ∈ [3], Try.prog.readableRec t = true ∧ t < Try.prog.types.size := by
  intro t ht; simp only [List.mem_cons, List.not_mem_nil, or_false] at ht; rcases ht with rfl <;> exact ⟨by kernel_rfl, of_decide_eq_true (by kernel_rfl)⟩
set_option maxRecDepth 100000 in
theorem lifted (os : Os) (started : os.Started) (H : Type) (enc : TypeId × Value → H) :
    ReturnsInHanded {} Try.checked os 3 .any (Rows.fnExactCornerNameSpec.pre6 enc Try.prog Try.f3 Rows.fnExactCornerNameRow.domain false) (Rows.fnExactCornerNameSpec.post enc Try.prog Try.f3 false true false false) := by
  refine returnsInHanded_of_change_sized (C := Try.checked) own started (by kernel_rfl) Try.func3
    (ChangeSpec.witness6 (enc := enc) (C := Try.checked) false ⟨#[], #[.int .i64 0], []⟩ 8 (by kernel_rfl) (by kernel_rfl) (by kernel_rfl) (by kernel_rfl)) ?_
  intro W base args ds gs before hval0 hW hcnd hsz0 _
  have hval : ∀ (j : Nat) t v, Try.f3.params[j]? = some t → args[j]? = some v → Value.okWide Try.prog W .any base t v := hval0
  have hW' := hW
  obtain ⟨p, q, hA0, hV, rfl, hfz, hnd⟩ := hW
  have hA : DataW.TrodAll enc Try.prog W 0 (fun _ => true) true Try.f3.params.toList args.toList ds p := hA0
  rw [Try.params3] at hA hval
  have hAk := hA
  obtain ⟨v0, vs0, d0, ds0, p0, q0, hargs0, rfl, rfl, h0, r0⟩ := trodAll_cons hA
  obtain ⟨rfl, rfl, rfl⟩ := trodAll_nil r0
  obtain rfl : args = #[v0] := by cases args; simp_all
  obtain ⟨rfl, rfl⟩ := trodVars_none hV
  obtain ⟨a0, rfl, rfl, rfl, w0⟩ := open_int Try.underlying3 (hval 0 3 v0 rfl rfl) h0
  have hk := Pure.FnExactCornerName.main a0 w0
  refine (PFnExactCornerName.laws_FnExactCornerName.calls a0 true W hk).mono fun e W' ⟨he, bel0⟩ => ?_
  subst he
  have bel : Below W.heap.size W W' := bel0
  have hst := args_stay laidOut bel okTypes (fun x hx => hW'.lt x (by first | (simp at hx; done) | simpa using hx)) hAk
  exact ⟨_, rfl, _, _, _, [], _, [], hW', trodAll_mk1 (shut_bool Try.underlying4 _), hst, rfl, bel.frame _, fun h => by cases h⟩
theorem over : Rows.fnExactCornerNameRow.holds Try.pinned (OpenSpec.ofChange Rows.fnExactCornerNameSpec) :=
  OpenClaim.holds_of_wide 3 Try.f3 rfl rfl rfl rfl rfl rfl rfl ⟨rfl, rfl, rfl, rfl, rfl⟩ rfl rfl rfl rfl rfl (by kernel_rfl) Try.func3 (Facts.joined (by kernel_rfl))
    (of_decide_eq_true (by kernel_rfl)) (by unfold Func.isWrapper; first | (rw [if_pos (by decide +kernel)]; kernel_rfl) | (rw [if_neg (by decide +kernel)]; exact ⟨rfl, rfl⟩))
    (fun os started H enc _ => lifted os started H enc)
end Go.Proofs.Ytlclpggodhodiaa.fnExactCornerName
namespace Go.Proofs.Ytlclpggodhodiaa
/-- The row, under a short name, for the claim. -/
theorem fnExactCornerName_holds : Rows.FnExactCornerNameSaid := fnExactCornerName.over
end Go.Proofs.Ytlclpggodhodiaa
