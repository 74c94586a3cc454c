/- The program's TileOf and the reference's answer the same: the same sum under the same test. No condition. -/
import Derived.Test.YtlclpggodhodiaaPFnExactTileOfx
namespace Go.Proofs.Ytlclpggodhodiaa.Pure.FnExactTileOf
open Go Go.RowKit Go.Proofs.Ytlclpggodhodiaa.PFnExactTileOf Go.Proofs.YtlclpggodhodiaaW.PrintWords Go.Proofs.YtlclpggodhodiaaW.PrintLast Go.Proofs.YtlclpggodhodiaaW.PrintMore
theorem tl (a b : Int) : impl_TileOf.f a b = spec_TileOf.f a b := rfl
theorem l1 (a b c : Int) : ∃ r, spec_l1In.f a b c = some r := by unfold spec_l1In.f; split <;> exact ⟨_, rfl⟩
theorem pt (a b : Int) : ∃ r, spec_IsPoint.f a b = some r := by
  obtain ⟨r1, h1⟩ := l1 a 0 200
  obtain ⟨r2, h2⟩ := l1 b 0 200
  unfold spec_IsPoint.f
  rw [h1, h2]
  cases r1 <;> exact ⟨_, rfl⟩
theorem tv (a b : Int) : ∃ r, spec_TileOf.f a b = some r := by
  obtain ⟨r1, h1⟩ := pt a b
  unfold spec_TileOf.f
  rw [h1]
  cases r1 <;> exact ⟨_, rfl⟩
theorem main : ∀ (a0_0 : Int) (a0_1 : Int), (Lit.int .i64 a0_0).wf = true → (Lit.int .i64 a0_1).wf = true → laws_FnExactTileOf.f a0_0 a0_1 = some true := by
  intro a b _ _
  obtain ⟨r, h⟩ := tv a b
  unfold laws_FnExactTileOf.f laws_toPoint.f
  simp [tl, h]
end Go.Proofs.Ytlclpggodhodiaa.Pure.FnExactTileOf
