/- The program's LabelBox and the reference's answer the same box and the same word whether there is one. No condition. -/
import Derived.Test.YtlclpggodhodiaaPFnExactLabelBoxx
namespace Go.Proofs.Ytlclpggodhodiaa.Pure.FnExactLabelBox
open Go Go.RowKit Go.Proofs.Ytlclpggodhodiaa.PFnExactLabelBox Go.Proofs.YtlclpggodhodiaaW.PrintWords Go.Proofs.YtlclpggodhodiaaW.PrintLast Go.Proofs.YtlclpggodhodiaaW.PrintMore
set_option linter.unusedVariables false
set_option linter.unusedSimpArgs false
theorem l1 (a b c : Int) : ∃ r, spec_l1In.f a b c = some r ∧ impl_InRange.f a b c = some r := by
  unfold spec_l1In.f impl_InRange.f
  by_cases h : a ≥ b
  · rw [if_pos h]; exact ⟨_, rfl, rfl⟩
  · rw [if_neg h]; exact ⟨_, rfl, rfl⟩
theorem wrap_up {i n : Int} (h0 : 0 ≤ i) (h : i < n) (hn : n ≤ 9223372036854775807) : wrap64 (i + 1) = i + 1 := by unfold wrap64; omega
theorem name_loop (s : ByteArray) (hs : s.size ≤ 9223372036854775807) (d : Nat) : ∀ i : Int, 0 ≤ i → (s.size : Int) - i = d → ∃ r, Ev (fun k => spec_IsName.l0 k s i) r ∧ Ev (fun k => impl_IsName.l0 k s (s.size : Int) i) r := by
  induction d with
  | zero =>
    intro i h0 hd
    obtain ⟨r, h1, h2⟩ := l1 (s.size : Int) 1 8
    refine ⟨r, Ev.step (f := fun _ => some r) (fun k => ?_) (Ev.now r), Ev.step (f := fun _ => some r) (fun k => ?_) (Ev.now r)⟩
    · simp only [spec_IsName.l0]; rw [if_neg (by omega), h1]; rfl
    · simp only [impl_IsName.l0]; rw [if_neg (by omega), h2]; rfl
  | succ d ih =>
    intro i h0 hd
    have hlt : i < (s.size : Int) := by omega
    by_cases hc : bt s i < 97
    · refine ⟨false, Ev.step (f := fun _ => some false) (fun k => ?_) (Ev.now _), Ev.step (f := fun _ => some false) (fun k => ?_) (Ev.now _)⟩
      · simp only [spec_IsName.l0]; rw [if_pos hlt, if_pos h0, if_pos hc]
      · simp only [impl_IsName.l0]; rw [if_pos hlt, if_pos h0, if_pos hlt, if_pos hc]
    · by_cases hc' : bt s i > 122
      · refine ⟨false, Ev.step (f := fun _ => some false) (fun k => ?_) (Ev.now _), Ev.step (f := fun _ => some false) (fun k => ?_) (Ev.now _)⟩
        · simp only [spec_IsName.l0]; rw [if_pos hlt, if_pos h0, if_neg hc, if_pos hc']
        · simp only [impl_IsName.l0]; rw [if_pos hlt, if_pos h0, if_pos hlt, if_neg hc, if_pos hc']
      · obtain ⟨r, h1, h2⟩ := ih (i + 1) (by omega) (by omega)
        refine ⟨r, Ev.step (fun k => ?_) h1, Ev.step (fun k => ?_) h2⟩
        · simp only [spec_IsName.l0]; rw [if_pos hlt, if_pos h0, if_neg hc, if_neg hc', wrap_up h0 hlt (by omega)]
        · simp only [impl_IsName.l0]; rw [if_pos hlt, if_pos h0, if_pos hlt, if_neg hc, if_neg hc', wrap_up h0 hlt (by omega)]
theorem name_same (s : ByteArray) (hs : s.size ≤ 9223372036854775807) : ∃ r, Ev (fun k => spec_IsName.f k s) r ∧ Ev (fun k => impl_IsName.f k s) r := by
  obtain ⟨r, h1, h2⟩ := name_loop s hs s.size 0 (by omega) (by omega)
  exact ⟨r, h1, h2⟩
theorem width_same (s : ByteArray) (hs : s.size ≤ 9223372036854775807) : ∃ r, Ev (fun k => spec_NameWidth.f k s) r ∧ Ev (fun k => impl_NameWidth.f k s) r := by
  obtain ⟨r, h1, h2⟩ := name_same s hs
  refine ⟨if r = true then wrap64 (2 * (s.size : Int)) else 0, ?_, ?_⟩
  · unfold spec_NameWidth.f
    refine Ev.bind h1 ?_
    cases r
    · simp only [Bool.false_eq_true, if_false]; exact Ev.now _
    · simp only [if_true]; exact Ev.now _
  · unfold impl_NameWidth.f
    refine Ev.bind h2 ?_
    cases r
    · simp only [Bool.false_eq_true, if_false]; exact Ev.now _
    · simp only [if_true]; exact Ev.now _
def inB (a b c : Int) : Bool := decide (b ≤ a) && decide (a ≤ c)
theorem in_s (a b c : Int) : spec_l1In.f a b c = some (inB a b c) := by
  unfold spec_l1In.f inB
  by_cases h : a ≥ b
  · rw [if_pos h, decide_eq_true (show b ≤ a from h)]; rfl
  · rw [if_neg h, decide_eq_false (show ¬ b ≤ a from h)]; rfl
theorem in_i (a b c : Int) : impl_InRange.f a b c = some (inB a b c) := in_s a b c
def ptB (x y : Int) : Bool := inB x 0 200 && inB y 0 200
theorem pt_s (x y : Int) : spec_IsPoint.f x y = some (ptB x y) := by
  unfold spec_IsPoint.f ptB
  rw [in_s, in_s]
  cases inB x 0 200 <;> rfl
theorem pt_i (x y : Int) : impl_IsPoint.f x y = some (ptB x y) := by
  unfold impl_IsPoint.f ptB
  rw [in_i, in_i]
  cases inB x 0 200 <;> rfl
def boxB (a b c d : Int) : Bool := ptB a b && (ptB c d && (decide (a ≤ c) && decide (b ≤ d)))
theorem box_s (a b c d : Int) : spec_IsBox.f a b c d = some (boxB a b c d) := by
  unfold spec_IsBox.f boxB
  rw [pt_s, pt_s]
  cases ptB a b
  · rfl
  · cases ptB c d
    · rfl
    · by_cases h : a ≤ c
      · simp [h]
      · simp [h]
theorem box_i (a b c d : Int) : impl_IsBox.f a b c d = some (boxB a b c d) := by
  unfold impl_IsBox.f boxB
  rw [pt_i, pt_i]
  cases ptB a b
  · rfl
  · cases ptB c d
    · rfl
    · by_cases h : a ≤ c
      · simp [h]
      · simp [h]
/-- The answer for a box: itself when it is one. -/
def askB (a b c d : Int) : Int × Int × Int × Int × Bool := if boxB a b c d = true then (a, b, c, d, true) else (0, 0, 0, 0, false)
theorem label_same (x y : Int) (s : ByteArray) (p : Int) (hs : s.size ≤ 9223372036854775807) : ∃ R, Ev (fun k => spec_LabelBox.f k x y s p) R ∧ Ev (fun k => impl_LabelBox.f k x y s p) R := by
  obtain ⟨r, n1, n2⟩ := name_same s hs
  obtain ⟨w, w1, w2⟩ := width_same s hs
  have no_s : Ev (fun k => spec_LabelBox.j0 k s p true x y) (0, 0, 0, 0, false) := Ev.step (f := fun _ => some (0, 0, 0, 0, false)) (fun k => by simp [spec_LabelBox.j0]) (Ev.now _)
  have no_i : Ev (fun k => impl_LabelBox.j0 k s p true x y) (0, 0, 0, 0, false) := Ev.step (f := fun _ => some (0, 0, 0, 0, false)) (fun k => by simp [impl_LabelBox.j0]) (Ev.now _)
  have j1_s : ∀ a b c d : Int, Ev (fun k => spec_LabelBox.j1 k p x y a b c d) (if p ≥ 2 then askB a (wrap64 (y - 3)) c y else askB a b c d) := by
    intro a b c d
    refine Ev.step (f := fun _ => some (if p ≥ 2 then askB a (wrap64 (y - 3)) c y else askB a b c d)) (fun k => ?_) (Ev.now _)
    simp only [spec_LabelBox.j1, box_s, Option.bind_some]
    unfold askB
    split
    · split <;> rfl
    · split <;> rfl
  have j1_i : ∀ a b c d : Int, Ev (fun k => impl_LabelBox.j1 k p a b c d) (if p < 2 then askB a b c (wrap64 (d + 3)) else askB a (wrap64 (b - 3)) c d) := by
    intro a b c d
    refine Ev.step (f := fun _ => some (if p < 2 then askB a b c (wrap64 (d + 3)) else askB a (wrap64 (b - 3)) c d)) (fun k => ?_) (Ev.now _)
    simp only [impl_LabelBox.j1, box_i, Option.bind_some]
    unfold askB
    split
    · split <;> rfl
    · split <;> rfl
  unfold spec_LabelBox.f impl_LabelBox.f
  simp only [pt_s, pt_i, in_s, in_i, Option.bind_some]
  by_cases hp : ptB x y = true
  · simp only [if_pos hp]
    cases r with
    | false =>
      refine ⟨(0, 0, 0, 0, false), Ev.bind n1 ?_, Ev.bind n2 ?_⟩
      · simp only [Bool.false_eq_true, if_false]; exact no_s
      · simp only [Bool.false_eq_true, if_false]; exact no_i
    | true =>
      cases hc : inB p 0 3 with
      | false =>
        refine ⟨(0, 0, 0, 0, false), Ev.bind n1 ?_, Ev.bind n2 ?_⟩
        · simp only [if_true, Bool.not_false]; exact no_s
        · simp only [if_true, Bool.not_false]; exact no_i
      | true =>
        have hr : 0 ≤ p ∧ p ≤ 3 := by simpa [inB] using hc
        have ht : Int.tmod p 2 = p % 2 := Int.tmod_eq_emod_of_nonneg hr.1
        by_cases ho : p % 2 = 1
        · refine ⟨if p ≥ 2 then askB (wrap64 (x - w)) (wrap64 (y - 3)) x y else askB (wrap64 (x - w)) y x (wrap64 (y + 3)), Ev.bind n1 ?_, Ev.bind n2 ?_⟩
          · simp only [if_true, Bool.not_true]
            refine Ev.step (f := fun k => (spec_NameWidth.f k s).bind fun t => (spec_NameWidth.f k s).bind fun u => spec_LabelBox.j1 k p x y (wrap64 (x - u)) y x (wrap64 (y + 3))) (fun k => ?_) (Ev.bind w1 (Ev.bind w1 (j1_s _ _ _ _)))
            simp only [spec_LabelBox.j0, Bool.false_eq_true, if_false, ht, if_pos ho]
          · simp only [if_true, Bool.not_true]
            have := j1_i (wrap64 (x - w)) y x y
            have e : (if p < 2 then askB (wrap64 (x - w)) y x (wrap64 (y + 3)) else askB (wrap64 (x - w)) (wrap64 (y - 3)) x y) = (if p ≥ 2 then askB (wrap64 (x - w)) (wrap64 (y - 3)) x y else askB (wrap64 (x - w)) y x (wrap64 (y + 3))) := by
              by_cases h2 : p ≥ 2
              · rw [if_pos h2, if_neg (by omega)]
              · rw [if_neg h2, if_pos (by omega)]
            rw [e] at this
            refine Ev.step (f := fun k => (impl_NameWidth.f k s).bind fun t => impl_LabelBox.j1 k p (wrap64 (x - t)) y x y) (fun k => ?_) (Ev.bind w2 this)
            simp only [impl_LabelBox.j0, Bool.false_eq_true, if_false, ht, if_neg (show ¬ p % 2 = 0 by omega)]
        · refine ⟨if p ≥ 2 then askB x (wrap64 (y - 3)) (wrap64 (x + w)) y else askB x y (wrap64 (x + w)) (wrap64 (y + 3)), Ev.bind n1 ?_, Ev.bind n2 ?_⟩
          · simp only [if_true, Bool.not_true]
            refine Ev.step (f := fun k => (spec_NameWidth.f k s).bind fun t => spec_LabelBox.j1 k p x y x y (wrap64 (x + t)) (wrap64 (y + 3))) (fun k => ?_) (Ev.bind w1 (j1_s _ _ _ _))
            simp only [spec_LabelBox.j0, Bool.false_eq_true, if_false, ht, if_neg ho]
          · simp only [if_true, Bool.not_true]
            have := j1_i x y (wrap64 (x + w)) y
            have e : (if p < 2 then askB x y (wrap64 (x + w)) (wrap64 (y + 3)) else askB x (wrap64 (y - 3)) (wrap64 (x + w)) y) = (if p ≥ 2 then askB x (wrap64 (y - 3)) (wrap64 (x + w)) y else askB x y (wrap64 (x + w)) (wrap64 (y + 3))) := by
              by_cases h2 : p ≥ 2
              · rw [if_pos h2, if_neg (by omega)]
              · rw [if_neg h2, if_pos (by omega)]
            rw [e] at this
            refine Ev.step (f := fun k => (impl_NameWidth.f k s).bind fun t => impl_LabelBox.j1 k p x y (wrap64 (x + t)) y) (fun k => ?_) (Ev.bind w2 this)
            simp only [impl_LabelBox.j0, Bool.false_eq_true, if_false, ht, if_pos (show p % 2 = 0 by omega)]
  · simp only [if_neg hp]
    exact ⟨_, no_s, no_i⟩
theorem eqp (a b : Int) : laws_eqPoint.f a b a b = some true := by simp [laws_eqPoint.f]
theorem eqb (a b c d : Int) : laws_eqBox.f a b c d a b c d = some true := by simp [laws_eqBox.f, eqp]
theorem main : ∀ (a0_0 : Int) (a0_1 : Int) (a1 : ByteArray) (a2 : Int), (Lit.int .i64 a0_0).wf = true → (Lit.int .i64 a0_1).wf = true → a1.size ≤ 9223372036854775807 → (Lit.int .i64 a2).wf = true → ∃ k, laws_FnExactLabelBox.f k a0_0 a0_1 a1 a2 = some true := by
  intro x y s p _ _ hs _
  refine Ev.rounds (r := true) ?_
  unfold laws_FnExactLabelBox.f laws_toPoint.f
  by_cases hb : (s.size : Int) > 1048576
  · simp only [if_pos hb]; exact Ev.now _
  · simp only [if_neg hb, Option.bind_some]
    obtain ⟨R, e1, e2⟩ := label_same x y s p hs
    refine Ev.bind e1 (Ev.bind e2 ?_)
    simp only [eqb, Option.bind_some, if_true, bne_self_eq_false, Bool.false_eq_true, if_false]
    exact Ev.now _
end Go.Proofs.Ytlclpggodhodiaa.Pure.FnExactLabelBox
