/- The program's TileBox and the reference's answer the same box: the least of two numbers, told either way. No condition. -/
import Derived.Test.YtlclpggodhodiaaPFnExactTileBoxx
namespace Go.Proofs.Ytlclpggodhodiaa.Pure.FnExactTileBox
open Go Go.RowKit Go.Proofs.Ytlclpggodhodiaa.PFnExactTileBox Go.Proofs.YtlclpggodhodiaaW.PrintWords Go.Proofs.YtlclpggodhodiaaW.PrintLast Go.Proofs.YtlclpggodhodiaaW.PrintMore
theorem l1 (a b c : Int) : ∃ r, spec_l1In.f a b c = some r ∧ impl_InRange.f a b c = some r := by
  unfold spec_l1In.f impl_InRange.f
  by_cases h : a ≥ b
  · rw [if_pos h]; exact ⟨_, rfl, rfl⟩
  · rw [if_neg h]; exact ⟨_, rfl, rfl⟩
theorem mn_min (a : Int) : spec_Min.f 200 a = some (mn a 200) := by
  unfold spec_Min.f mn
  by_cases h : a < 200
  · rw [if_pos h, if_neg (by omega)]
  · rw [if_neg h]
    by_cases h' : (200 : Int) < a
    · rw [if_pos h']
    · rw [if_neg h']; congr 1; omega
theorem same (a : Int) : ∃ r, spec_TileBox.f a = some r ∧ impl_TileBox.f a = some r := by
  obtain ⟨r, h1, h2⟩ := l1 a 0 440
  unfold spec_TileBox.f impl_TileBox.f
  rw [h1, h2]
  simp only [Option.bind_some, mn_min]
  cases r <;> exact ⟨_, rfl, rfl⟩
theorem eqp (a b : Int) : laws_eqPoint.f a b a b = some true := by simp [laws_eqPoint.f]
theorem eqb (a b c d : Int) : laws_eqBox.f a b c d a b c d = some true := by simp [laws_eqBox.f, eqp]
theorem main : ∀ (a0 : Int), (Lit.int .i64 a0).wf = true → laws_FnExactTileBox.f a0 = some true := by
  intro a _
  obtain ⟨r, h1, h2⟩ := same a
  unfold laws_FnExactTileBox.f
  rw [h1, h2]
  simp [eqb]
end Go.Proofs.Ytlclpggodhodiaa.Pure.FnExactTileBox
