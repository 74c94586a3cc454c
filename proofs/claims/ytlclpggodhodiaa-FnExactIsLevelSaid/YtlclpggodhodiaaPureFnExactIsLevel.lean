/- The program's IsLevel and the reference's answer the same: both ask the same three ranges. No condition. -/
import Derived.Test.YtlclpggodhodiaaPFnExactIsLevelx
namespace Go.Proofs.Ytlclpggodhodiaa.Pure.FnExactIsLevel
open Go Go.RowKit Go.Proofs.Ytlclpggodhodiaa.PFnExactIsLevel Go.Proofs.YtlclpggodhodiaaW.PrintWords Go.Proofs.YtlclpggodhodiaaW.PrintLast Go.Proofs.YtlclpggodhodiaaW.PrintMore
theorem inR (a b c : Int) : impl_InRange.f a b c = spec_l1In.f a b c := rfl
theorem lvl (a b c : Int) : impl_IsLevel.f a b c = spec_IsLevel.f a b c := rfl
theorem l1 (a b c : Int) : ∃ r, spec_l1In.f a b c = some r := by unfold spec_l1In.f; split <;> exact ⟨_, rfl⟩
theorem lv (a b c : Int) : ∃ r, spec_IsLevel.f a b c = some r := by
  obtain ⟨r1, h1⟩ := l1 a 0 9
  obtain ⟨r2, h2⟩ := l1 b 0 200
  obtain ⟨r3, h3⟩ := l1 c 0 100000
  unfold spec_IsLevel.f
  rw [h1, h2, h3]
  cases r1 <;> cases r2 <;> exact ⟨_, rfl⟩
theorem main : ∀ (a0_0 : Int) (a0_1 : Int) (a0_2 : Int), (Lit.int .i64 a0_0).wf = true → (Lit.int .i64 a0_1).wf = true → (Lit.int .i64 a0_2).wf = true → laws_FnExactIsLevel.f a0_0 a0_1 a0_2 = some true := by
  intro a b c _ _ _
  obtain ⟨r, h⟩ := lv a b c
  unfold laws_FnExactIsLevel.f laws_toLevel.f
  simp [lvl, h]
end Go.Proofs.Ytlclpggodhodiaa.Pure.FnExactIsLevel
