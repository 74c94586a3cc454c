/- The program's NameWidth and the reference's answer the same: the same look through the letters. No condition. -/
import Derived.Test.YtlclpggodhodiaaPFnExactNameWidthx
namespace Go.Proofs.Ytlclpggodhodiaa.Pure.FnExactNameWidth
open Go Go.RowKit Go.Proofs.Ytlclpggodhodiaa.PFnExactNameWidth Go.Proofs.YtlclpggodhodiaaW.PrintWords Go.Proofs.YtlclpggodhodiaaW.PrintLast Go.Proofs.YtlclpggodhodiaaW.PrintMore
theorem l1 (a b c : Int) : ∃ r, spec_l1In.f a b c = some r ∧ impl_InRange.f a b c = some r := by
  unfold spec_l1In.f impl_InRange.f
  by_cases h : a ≥ b
  · rw [if_pos h]; exact ⟨_, rfl, rfl⟩
  · rw [if_neg h]; exact ⟨_, rfl, rfl⟩
theorem wrap_up {i n : Int} (h0 : 0 ≤ i) (h : i < n) (hn : n ≤ 9223372036854775807) : wrap64 (i + 1) = i + 1 := by unfold wrap64; omega
theorem name_loop (s : ByteArray) (hs : s.size ≤ 9223372036854775807) (d : Nat) : ∀ i : Int, 0 ≤ i → (s.size : Int) - i = d → ∃ r, Ev (fun k => spec_IsName.l0 k s i) r ∧ Ev (fun k => impl_IsName.l0 k s (s.size : Int) i) r := by
  induction d with
  | zero =>
    intro i h0 hd
    obtain ⟨r, h1, h2⟩ := l1 (s.size : Int) 1 8
    refine ⟨r, Ev.step (f := fun _ => some r) (fun k => ?_) (Ev.now r), Ev.step (f := fun _ => some r) (fun k => ?_) (Ev.now r)⟩
    · simp only [spec_IsName.l0]; rw [if_neg (by omega), h1]; rfl
    · simp only [impl_IsName.l0]; rw [if_neg (by omega), h2]; rfl
  | succ d ih =>
    intro i h0 hd
    have hlt : i < (s.size : Int) := by omega
    by_cases hc : bt s i < 97
    · refine ⟨false, Ev.step (f := fun _ => some false) (fun k => ?_) (Ev.now _), Ev.step (f := fun _ => some false) (fun k => ?_) (Ev.now _)⟩
      · simp only [spec_IsName.l0]; rw [if_pos hlt, if_pos h0, if_pos hc]
      · simp only [impl_IsName.l0]; rw [if_pos hlt, if_pos h0, if_pos hlt, if_pos hc]
    · by_cases hc' : bt s i > 122
      · refine ⟨false, Ev.step (f := fun _ => some false) (fun k => ?_) (Ev.now _), Ev.step (f := fun _ => some false) (fun k => ?_) (Ev.now _)⟩
        · simp only [spec_IsName.l0]; rw [if_pos hlt, if_pos h0, if_neg hc, if_pos hc']
        · simp only [impl_IsName.l0]; rw [if_pos hlt, if_pos h0, if_pos hlt, if_neg hc, if_pos hc']
      · obtain ⟨r, h1, h2⟩ := ih (i + 1) (by omega) (by omega)
        refine ⟨r, Ev.step (fun k => ?_) h1, Ev.step (fun k => ?_) h2⟩
        · simp only [spec_IsName.l0]; rw [if_pos hlt, if_pos h0, if_neg hc, if_neg hc', wrap_up h0 hlt (by omega)]
        · simp only [impl_IsName.l0]; rw [if_pos hlt, if_pos h0, if_pos hlt, if_neg hc, if_neg hc', wrap_up h0 hlt (by omega)]
theorem name_same (s : ByteArray) (hs : s.size ≤ 9223372036854775807) : ∃ r, Ev (fun k => spec_IsName.f k s) r ∧ Ev (fun k => impl_IsName.f k s) r := by
  obtain ⟨r, h1, h2⟩ := name_loop s hs s.size 0 (by omega) (by omega)
  exact ⟨r, h1, h2⟩
theorem width_same (s : ByteArray) (hs : s.size ≤ 9223372036854775807) : ∃ r, Ev (fun k => spec_NameWidth.f k s) r ∧ Ev (fun k => impl_NameWidth.f k s) r := by
  obtain ⟨r, h1, h2⟩ := name_same s hs
  refine ⟨if r = true then wrap64 (2 * (s.size : Int)) else 0, ?_, ?_⟩
  · unfold spec_NameWidth.f
    refine Ev.bind h1 ?_
    cases r
    · simp only [Bool.false_eq_true, if_false]; exact Ev.now _
    · simp only [if_true]; exact Ev.now _
  · unfold impl_NameWidth.f
    refine Ev.bind h2 ?_
    cases r
    · simp only [Bool.false_eq_true, if_false]; exact Ev.now _
    · simp only [if_true]; exact Ev.now _
theorem main : ∀ (a0 : ByteArray), a0.size ≤ 9223372036854775807 → ∃ k, laws_FnExactNameWidth.f k a0 = some true := by
  intro s hs
  obtain ⟨r, h1, h2⟩ := width_same s hs
  refine Ev.rounds (r := true) ?_
  unfold laws_FnExactNameWidth.f
  by_cases hb : (s.size : Int) > 1048576
  · simp only [if_pos hb]; exact Ev.now _
  · simp only [if_neg hb]
    refine Ev.bind h1 (Ev.bind h2 ?_)
    simp only [if_true]
    exact Ev.now _
end Go.Proofs.Ytlclpggodhodiaa.Pure.FnExactNameWidth
