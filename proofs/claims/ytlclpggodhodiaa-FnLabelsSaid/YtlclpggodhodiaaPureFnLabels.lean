/- A name's box touches its point, and a free corner is free. No condition. -/
import Derived.Test.YtlclpggodhodiaaPFnLabelsx
namespace Go.Proofs.Ytlclpggodhodiaa.Pure.FnLabels
open Go Go.RowKit Go.Proofs.Ytlclpggodhodiaa.PFnLabels Go.Proofs.YtlclpggodhodiaaW.PrintWords Go.Proofs.YtlclpggodhodiaaW.PrintLast Go.Proofs.YtlclpggodhodiaaW.PrintMore Go.Proofs.YtlclpggodhodiaaGeo
set_option linter.unusedVariables false
set_option linter.unusedSimpArgs false
theorem w1 (i : Nat) (h : i < 9223372036854775807) : wrap64 ((i : Int) + 1) = ((i + 1 : Nat) : Int) := by unfold wrap64; omega
theorem rd_at (l : List Int) (i : Nat) (h : i < l.length) : rd l (i : Int) = l[i] := by
  unfold rd
  rw [Int.toNat_natCast, List.getD_eq_getElem?_getD, List.getElem?_eq_getElem h]
  rfl
theorem l1 (a b c : Int) : ∃ r, spec_l1In.f a b c = some r ∧ impl_InRange.f a b c = some r := by
  unfold spec_l1In.f impl_InRange.f
  first
  | exact ⟨_, rfl, rfl⟩
  | (by_cases h : a ≥ b
     · rw [if_pos h]; exact ⟨_, rfl, rfl⟩
     · rw [if_neg h]; exact ⟨_, rfl, rfl⟩)
theorem wrap_up {i n : Int} (h0 : 0 ≤ i) (h : i < n) (hn : n ≤ 9223372036854775807) : wrap64 (i + 1) = i + 1 := by unfold wrap64; omega
theorem name_loop (s : ByteArray) (hs : s.size ≤ 9223372036854775807) (d : Nat) : ∀ i : Int, 0 ≤ i → (s.size : Int) - i = d → ∃ r, Ev (fun k => spec_IsName.l0 k s i) r ∧ Ev (fun k => impl_IsName.l0 k s (s.size : Int) i) r := by
  induction d with
  | zero =>
    intro i h0 hd
    obtain ⟨r, h1, h2⟩ := l1 (s.size : Int) 1 8
    refine ⟨r, Ev.step (f := fun _ => some r) (fun k => ?_) (Ev.now r), Ev.step (f := fun _ => some r) (fun k => ?_) (Ev.now r)⟩
    · simp only [spec_IsName.l0]; rw [if_neg (by omega), h1]; rfl
    · simp only [impl_IsName.l0]; rw [if_neg (by omega), h2]; rfl
  | succ d ih =>
    intro i h0 hd
    have hlt : i < (s.size : Int) := by omega
    by_cases hc : bt s i < 97
    · refine ⟨false, Ev.step (f := fun _ => some false) (fun k => ?_) (Ev.now _), Ev.step (f := fun _ => some false) (fun k => ?_) (Ev.now _)⟩
      · simp only [spec_IsName.l0]; rw [if_pos hlt, if_pos h0, if_pos hc]
      · simp only [impl_IsName.l0]; rw [if_pos hlt, if_pos h0, if_pos hlt, if_pos hc]
    · by_cases hc' : bt s i > 122
      · refine ⟨false, Ev.step (f := fun _ => some false) (fun k => ?_) (Ev.now _), Ev.step (f := fun _ => some false) (fun k => ?_) (Ev.now _)⟩
        · simp only [spec_IsName.l0]; rw [if_pos hlt, if_pos h0, if_neg hc, if_pos hc']
        · simp only [impl_IsName.l0]; rw [if_pos hlt, if_pos h0, if_pos hlt, if_neg hc, if_pos hc']
      · obtain ⟨r, h1, h2⟩ := ih (i + 1) (by omega) (by omega)
        refine ⟨r, Ev.step (fun k => ?_) h1, Ev.step (fun k => ?_) h2⟩
        · simp only [spec_IsName.l0]; rw [if_pos hlt, if_pos h0, if_neg hc, if_neg hc', wrap_up h0 hlt (by omega)]
        · simp only [impl_IsName.l0]; rw [if_pos hlt, if_pos h0, if_pos hlt, if_neg hc, if_neg hc', wrap_up h0 hlt (by omega)]
theorem name_same (s : ByteArray) (hs : s.size ≤ 9223372036854775807) : ∃ r, Ev (fun k => spec_IsName.f k s) r ∧ Ev (fun k => impl_IsName.f k s) r := by
  obtain ⟨r, h1, h2⟩ := name_loop s hs s.size 0 (by omega) (by omega)
  exact ⟨r, h1, h2⟩
theorem width_same (s : ByteArray) (hs : s.size ≤ 9223372036854775807) : ∃ r, Ev (fun k => spec_NameWidth.f k s) r ∧ Ev (fun k => impl_NameWidth.f k s) r := by
  obtain ⟨r, h1, h2⟩ := name_same s hs
  refine ⟨if r = true then wrap64 (2 * (s.size : Int)) else 0, ?_, ?_⟩
  · unfold spec_NameWidth.f
    refine Ev.bind h1 ?_
    cases r
    · simp only [Bool.false_eq_true, if_false]; exact Ev.now _
    · simp only [if_true]; exact Ev.now _
  · unfold impl_NameWidth.f
    refine Ev.bind h2 ?_
    cases r
    · simp only [Bool.false_eq_true, if_false]; exact Ev.now _
    · simp only [if_true]; exact Ev.now _
def inB (a b c : Int) : Bool := decide (b ≤ a) && decide (a ≤ c)
theorem in_s (a b c : Int) : spec_l1In.f a b c = some (inB a b c) := by
  unfold spec_l1In.f inB
  first
  | rfl
  | (by_cases h : a ≥ b
     · rw [if_pos h, decide_eq_true (show b ≤ a from h)]; rfl
     · rw [if_neg h, decide_eq_false (show ¬ b ≤ a from h)]; rfl)
theorem in_i (a b c : Int) : impl_InRange.f a b c = some (inB a b c) := in_s a b c
def ptB (x y : Int) : Bool := inB x 0 200 && inB y 0 200
theorem pt_s (x y : Int) : spec_IsPoint.f x y = some (ptB x y) := by
  unfold spec_IsPoint.f ptB
  first
  | rfl
  | (rw [in_s, in_s]; cases inB x 0 200 <;> rfl)
theorem pt_i (x y : Int) : impl_IsPoint.f x y = some (ptB x y) := by
  unfold impl_IsPoint.f ptB
  first
  | rfl
  | (rw [in_i, in_i]; cases inB x 0 200 <;> rfl)
def boxB (a b c d : Int) : Bool := ptB a b && (ptB c d && (decide (a ≤ c) && decide (b ≤ d)))
theorem box_s (a b c d : Int) : spec_IsBox.f a b c d = some (boxB a b c d) := by
  unfold spec_IsBox.f boxB
  rw [pt_s, pt_s]
  cases ptB a b
  · rfl
  · cases ptB c d
    · rfl
    · by_cases h : a ≤ c
      · simp [h]
      · simp [h]
theorem box_i (a b c d : Int) : impl_IsBox.f a b c d = some (boxB a b c d) := by
  unfold impl_IsBox.f boxB
  rw [pt_i, pt_i]
  cases ptB a b
  · rfl
  · cases ptB c d
    · rfl
    · by_cases h : a ≤ c
      · simp [h]
      · simp [h]
/-- The answer for a box: itself when it is one. -/
def askB (a b c d : Int) : Int × Int × Int × Int × Bool := if boxB a b c d = true then (a, b, c, d, true) else (0, 0, 0, 0, false)
theorem label_same (x y : Int) (s : ByteArray) (p : Int) (hs : s.size ≤ 9223372036854775807) : ∃ R, Ev (fun k => spec_LabelBox.f k x y s p) R ∧ Ev (fun k => impl_LabelBox.f k x y s p) R := by
  obtain ⟨r, n1, n2⟩ := name_same s hs
  obtain ⟨w, w1, w2⟩ := width_same s hs
  have no_s : Ev (fun k => spec_LabelBox.j0 k s p true x y) (0, 0, 0, 0, false) := Ev.step (f := fun _ => some (0, 0, 0, 0, false)) (fun k => by simp [spec_LabelBox.j0]) (Ev.now _)
  have no_i : Ev (fun k => impl_LabelBox.j0 k s p true x y) (0, 0, 0, 0, false) := Ev.step (f := fun _ => some (0, 0, 0, 0, false)) (fun k => by simp [impl_LabelBox.j0]) (Ev.now _)
  have j1_s : ∀ a b c d : Int, Ev (fun k => spec_LabelBox.j1 k p x y a b c d) (if p ≥ 2 then askB a (wrap64 (y - 3)) c y else askB a b c d) := by
    intro a b c d
    refine Ev.step (f := fun _ => some (if p ≥ 2 then askB a (wrap64 (y - 3)) c y else askB a b c d)) (fun k => ?_) (Ev.now _)
    simp only [spec_LabelBox.j1, box_s, Option.bind_some]
    unfold askB
    split
    · split <;> rfl
    · split <;> rfl
  have j1_i : ∀ a b c d : Int, Ev (fun k => impl_LabelBox.j1 k p a b c d) (if p < 2 then askB a b c (wrap64 (d + 3)) else askB a (wrap64 (b - 3)) c d) := by
    intro a b c d
    refine Ev.step (f := fun _ => some (if p < 2 then askB a b c (wrap64 (d + 3)) else askB a (wrap64 (b - 3)) c d)) (fun k => ?_) (Ev.now _)
    simp only [impl_LabelBox.j1, box_i, Option.bind_some]
    unfold askB
    split
    · split <;> rfl
    · split <;> rfl
  unfold spec_LabelBox.f impl_LabelBox.f
  simp only [pt_s, pt_i, in_s, in_i, Option.bind_some]
  by_cases hp : ptB x y = true
  · simp only [if_pos hp]
    cases r with
    | false =>
      refine ⟨(0, 0, 0, 0, false), Ev.bind n1 ?_, Ev.bind n2 ?_⟩
      · simp only [Bool.false_eq_true, if_false]; exact no_s
      · simp only [Bool.false_eq_true, if_false]; exact no_i
    | true =>
      cases hc : inB p 0 3 with
      | false =>
        refine ⟨(0, 0, 0, 0, false), Ev.bind n1 ?_, Ev.bind n2 ?_⟩
        · simp only [if_true, Bool.not_false]; exact no_s
        · simp only [if_true, Bool.not_false]; exact no_i
      | true =>
        have hr : 0 ≤ p ∧ p ≤ 3 := by simpa [inB] using hc
        have ht : Int.tmod p 2 = p % 2 := Int.tmod_eq_emod_of_nonneg hr.1
        by_cases ho : p % 2 = 1
        · refine ⟨if p ≥ 2 then askB (wrap64 (x - w)) (wrap64 (y - 3)) x y else askB (wrap64 (x - w)) y x (wrap64 (y + 3)), Ev.bind n1 ?_, Ev.bind n2 ?_⟩
          · simp only [if_true, Bool.not_true]
            refine Ev.step (f := fun k => (spec_NameWidth.f k s).bind fun t => (spec_NameWidth.f k s).bind fun u => spec_LabelBox.j1 k p x y (wrap64 (x - u)) y x (wrap64 (y + 3))) (fun k => ?_) (Ev.bind w1 (Ev.bind w1 (j1_s _ _ _ _)))
            simp only [spec_LabelBox.j0, Bool.false_eq_true, if_false, ht, if_pos ho]
          · simp only [if_true, Bool.not_true]
            have := j1_i (wrap64 (x - w)) y x y
            have e : (if p < 2 then askB (wrap64 (x - w)) y x (wrap64 (y + 3)) else askB (wrap64 (x - w)) (wrap64 (y - 3)) x y) = (if p ≥ 2 then askB (wrap64 (x - w)) (wrap64 (y - 3)) x y else askB (wrap64 (x - w)) y x (wrap64 (y + 3))) := by
              by_cases h2 : p ≥ 2
              · rw [if_pos h2, if_neg (by omega)]
              · rw [if_neg h2, if_pos (by omega)]
            rw [e] at this
            refine Ev.step (f := fun k => (impl_NameWidth.f k s).bind fun t => impl_LabelBox.j1 k p (wrap64 (x - t)) y x y) (fun k => ?_) (Ev.bind w2 this)
            simp only [impl_LabelBox.j0, Bool.false_eq_true, if_false, ht, if_neg (show ¬ p % 2 = 0 by omega)]
        · refine ⟨if p ≥ 2 then askB x (wrap64 (y - 3)) (wrap64 (x + w)) y else askB x y (wrap64 (x + w)) (wrap64 (y + 3)), Ev.bind n1 ?_, Ev.bind n2 ?_⟩
          · simp only [if_true, Bool.not_true]
            refine Ev.step (f := fun k => (spec_NameWidth.f k s).bind fun t => spec_LabelBox.j1 k p x y x y (wrap64 (x + t)) (wrap64 (y + 3))) (fun k => ?_) (Ev.bind w1 (j1_s _ _ _ _))
            simp only [spec_LabelBox.j0, Bool.false_eq_true, if_false, ht, if_neg ho]
          · simp only [if_true, Bool.not_true]
            have := j1_i x y (wrap64 (x + w)) y
            have e : (if p < 2 then askB x y (wrap64 (x + w)) (wrap64 (y + 3)) else askB x (wrap64 (y - 3)) (wrap64 (x + w)) y) = (if p ≥ 2 then askB x (wrap64 (y - 3)) (wrap64 (x + w)) y else askB x y (wrap64 (x + w)) (wrap64 (y + 3))) := by
              by_cases h2 : p ≥ 2
              · rw [if_pos h2, if_neg (by omega)]
              · rw [if_neg h2, if_pos (by omega)]
            rw [e] at this
            refine Ev.step (f := fun k => (impl_NameWidth.f k s).bind fun t => impl_LabelBox.j1 k p x y (wrap64 (x + t)) y) (fun k => ?_) (Ev.bind w2 this)
            simp only [impl_LabelBox.j0, Bool.false_eq_true, if_false, ht, if_pos (show p % 2 = 0 by omega)]
  · simp only [if_neg hp]
    exact ⟨_, no_s, no_i⟩
def ovB (a b c d e f g h : Int) : Bool := boxB a b c d && (boxB e f g h && (decide (mx a e < mn c g) && decide (mx b f < mn d h)))
theorem min_s (a b : Int) : spec_Min.f a b = some (mn a b) := by
  unfold spec_Min.f mn
  (repeat' split) <;> first | rfl | (congr 1; omega)
theorem max_s (a b : Int) : spec_Max.f a b = some (mx a b) := by
  unfold spec_Max.f mx
  (repeat' split) <;> first | rfl | (congr 1; omega)
theorem box_bound {a b c d : Int} (h : boxB a b c d = true) : 0 ≤ a ∧ a ≤ 200 ∧ 0 ≤ b ∧ b ≤ 200 ∧ 0 ≤ c ∧ c ≤ 200 ∧ 0 ≤ d ∧ d ≤ 200 := by
  simp only [boxB, ptB, inB, Bool.and_eq_true, decide_eq_true_eq] at h
  omega
theorem mn_bound (a b : Int) (h : 0 ≤ a ∧ a ≤ 200) (h' : 0 ≤ b ∧ b ≤ 200) : 0 ≤ mn a b ∧ mn a b ≤ 200 := by unfold mn; split <;> omega
theorem mx_bound (a b : Int) (h : 0 ≤ a ∧ a ≤ 200) (h' : 0 ≤ b ∧ b ≤ 200) : 0 ≤ mx a b ∧ mx a b ≤ 200 := by unfold mx; split <;> omega
theorem wrap_mid {a : Int} (h : -1000 ≤ a) (h' : a ≤ 1000) : wrap64 a = a := by unfold wrap64; omega
theorem ov_i (a b c d e f g h : Int) : impl_BoxesOverlap.f a b c d e f g h = some (ovB a b c d e f g h) := by
  unfold impl_BoxesOverlap.f impl_common.f ovB
  simp only [box_i, Option.bind_some]
  cases h1 : boxB a b c d
  · rfl
  · cases h2 : boxB e f g h
    · rfl
    · have b1 := box_bound h1
      have b2 := box_bound h2
      have m1 := mn_bound c g (by omega) (by omega)
      have m2 := mx_bound a e (by omega) (by omega)
      have m3 := mn_bound d h (by omega) (by omega)
      have m4 := mx_bound b f (by omega) (by omega)
      rw [wrap_mid (a := mn c g - mx a e) (by omega) (by omega), wrap_mid (a := mn d h - mx b f) (by omega) (by omega)]
      by_cases h3 : mx a e < mn c g
      · simp only [if_true, if_pos (show mn c g - mx a e > 0 by omega), decide_eq_true h3, Bool.true_and]
        rw [decide_eq_decide.2 (show mn d h - mx b f > 0 ↔ mx b f < mn d h by omega)]
      · simp only [if_true, if_neg (show ¬ mn c g - mx a e > 0 by omega), decide_eq_false h3, Bool.true_and, Bool.false_and]
theorem mx_comm (a b : Int) : mx a b = mx b a := by unfold mx; (repeat' split) <;> omega
theorem mn_comm (a b : Int) : mn a b = mn b a := by unfold mn; (repeat' split) <;> omega
theorem ov_comm (a b c d e f g h : Int) : ovB a b c d e f g h = ovB e f g h a b c d := by
  unfold ovB
  rw [mx_comm a e, mx_comm b f, mn_comm c g, mn_comm d h]
  cases boxB a b c d <;> cases boxB e f g h <;> simp
theorem rdB_at (l : List S39) (i : Nat) (h : i < l.length) : rd_T39 l (i : Int) = l[i] := by
  unfold rd_T39
  rw [Int.toNat_natCast, List.getD_eq_getElem?_getD, List.getElem?_eq_getElem h]
  rfl
def offB (a b c d : Int) (x : S39) : Bool := !ovB a b c d x.f0.f0 x.f0.f1 x.f1.f0 x.f1.f1
theorem isFree_l (B : List S39) (hB : B.length ≤ 1048576) (a b c d : Int) (n : Nat) : ∀ j : Nat, j + n = B.length → Ev (fun k => impl_isFree.l0 k B (B.length : Int) (j : Int) a b c d) ((B.drop j).all (offB a b c d)) := by
  induction n with
  | zero =>
    intro j hj
    have e : B.drop j = [] := List.drop_of_length_le (by omega)
    rw [e]
    refine Ev.step (f := fun _ => some true) (fun k => ?_) (Ev.now _)
    simp only [impl_isFree.l0]
    rw [if_neg (by omega)]
  | succ n ih =>
    intro j hj
    have h1 : j < B.length := by omega
    rw [List.drop_eq_getElem_cons h1, List.all_cons]
    cases hv : ovB a b c d B[j].f0.f0 B[j].f0.f1 B[j].f1.f0 B[j].f1.f1 with
    | true =>
      have e : offB a b c d B[j] = false := by unfold offB; rw [hv]; rfl
      rw [e, Bool.false_and]
      refine Ev.step (f := fun _ => some false) (fun k => ?_) (Ev.now _)
      simp only [impl_isFree.l0, ov_i]
      rw [if_pos (by omega), if_pos (by omega), if_pos (by omega), rdB_at B j h1, hv]
      simp
    | false =>
      have e : offB a b c d B[j] = true := by unfold offB; rw [hv]; rfl
      rw [e, Bool.true_and]
      refine Ev.step (fun k => ?_) (ih (j + 1) (by omega))
      simp only [impl_isFree.l0, ov_i]
      rw [if_pos (by omega), if_pos (by omega), if_pos (by omega), rdB_at B j h1, hv, w1 j (by omega)]
      simp
theorem rdBx_at (l : List S39) (i : Nat) (h : i < l.length) : rd_T39 l (i : Int) = l[i] := by
  unfold rd_T39
  rw [Int.toNat_natCast, List.getD_eq_getElem?_getD, List.getElem?_eq_getElem h]
  rfl
/-- The label's box at a corner. r: the name is one; w: its width. -/
def lbV (x y : Int) (r : Bool) (w p : Int) : Int × Int × Int × Int × Bool :=
  if ptB x y = true ∧ r = true ∧ inB p 0 3 = true then
    (if p % 2 = 1 then (if p ≥ 2 then askB (wrap64 (x - w)) (wrap64 (y - 3)) x y else askB (wrap64 (x - w)) y x (wrap64 (y + 3)))
    else (if p ≥ 2 then askB x (wrap64 (y - 3)) (wrap64 (x + w)) y else askB x y (wrap64 (x + w)) (wrap64 (y + 3))))
  else (0, 0, 0, 0, false)
theorem label_i (x y : Int) (s : ByteArray) (r : Bool) (w : Int) (n2 : Ev (fun k => impl_IsName.f k s) r) (w2 : Ev (fun k => impl_NameWidth.f k s) w) (p : Int) : Ev (fun k => impl_LabelBox.f k x y s p) (lbV x y r w p) := by
  have no_i : Ev (fun k => impl_LabelBox.j0 k s p true x y) (0, 0, 0, 0, false) := Ev.step (f := fun _ => some (0, 0, 0, 0, false)) (fun k => by simp [impl_LabelBox.j0]) (Ev.now _)
  have j1_i : ∀ a b c d : Int, Ev (fun k => impl_LabelBox.j1 k p a b c d) (if p < 2 then askB a b c (wrap64 (d + 3)) else askB a (wrap64 (b - 3)) c d) := by
    intro a b c d
    refine Ev.step (f := fun _ => some (if p < 2 then askB a b c (wrap64 (d + 3)) else askB a (wrap64 (b - 3)) c d)) (fun k => ?_) (Ev.now _)
    simp only [impl_LabelBox.j1, box_i, Option.bind_some]
    unfold askB
    split
    · split <;> rfl
    · split <;> rfl
  unfold impl_LabelBox.f lbV
  simp only [pt_i, in_i, Option.bind_some]
  by_cases hp : ptB x y = true
  · simp only [if_pos hp]
    refine Ev.bind n2 ?_
    cases r with
    | false =>
      rw [if_neg (by simp)]
      simp only [Bool.false_eq_true, if_false]; exact no_i
    | true =>
      cases hc : inB p 0 3 with
      | false =>
        rw [if_neg (by simp)]
        simp only [if_true, Bool.not_false]; exact no_i
      | true =>
        have hr : 0 ≤ p ∧ p ≤ 3 := by simpa [inB] using hc
        have ht : Int.tmod p 2 = p % 2 := Int.tmod_eq_emod_of_nonneg hr.1
        rw [if_pos ⟨hp, rfl, rfl⟩]
        simp only [if_true, Bool.not_true]
        by_cases ho : p % 2 = 1
        · rw [if_pos ho]
          have := j1_i (wrap64 (x - w)) y x y
          have e : (if p < 2 then askB (wrap64 (x - w)) y x (wrap64 (y + 3)) else askB (wrap64 (x - w)) (wrap64 (y - 3)) x y) = (if p ≥ 2 then askB (wrap64 (x - w)) (wrap64 (y - 3)) x y else askB (wrap64 (x - w)) y x (wrap64 (y + 3))) := by
            by_cases h2 : p ≥ 2
            · rw [if_pos h2, if_neg (by omega)]
            · rw [if_neg h2, if_pos (by omega)]
          rw [e] at this
          refine Ev.step (f := fun k => (impl_NameWidth.f k s).bind fun t => impl_LabelBox.j1 k p (wrap64 (x - t)) y x y) (fun k => ?_) (Ev.bind w2 this)
          simp only [impl_LabelBox.j0, Bool.false_eq_true, if_false, ht, if_neg (show ¬ p % 2 = 0 by omega)]
        · rw [if_neg ho]
          have := j1_i x y (wrap64 (x + w)) y
          have e : (if p < 2 then askB x y (wrap64 (x + w)) (wrap64 (y + 3)) else askB x (wrap64 (y - 3)) (wrap64 (x + w)) y) = (if p ≥ 2 then askB x (wrap64 (y - 3)) (wrap64 (x + w)) y else askB x y (wrap64 (x + w)) (wrap64 (y + 3))) := by
            by_cases h2 : p ≥ 2
            · rw [if_pos h2, if_neg (by omega)]
            · rw [if_neg h2, if_pos (by omega)]
          rw [e] at this
          refine Ev.step (f := fun k => (impl_NameWidth.f k s).bind fun t => impl_LabelBox.j1 k p x y (wrap64 (x + t)) y) (fun k => ?_) (Ev.bind w2 this)
          simp only [impl_LabelBox.j0, Bool.false_eq_true, if_false, ht, if_pos (show p % 2 = 0 by omega)]
  · rw [if_neg (fun q => hp q.1)]
    simp only [if_neg hp]
    exact no_i
theorem boxB_le {a b c d : Int} (h : boxB a b c d = true) : (0 ≤ a ∧ a ≤ 200 ∧ 0 ≤ b ∧ b ≤ 200) ∧ (0 ≤ c ∧ c ≤ 200 ∧ 0 ≤ d ∧ d ≤ 200) ∧ a ≤ c ∧ b ≤ d := by
  simp only [boxB, ptB, inB, Bool.and_eq_true, decide_eq_true_eq] at h
  omega
theorem askB_ok {a b c d : Int} (h : (askB a b c d).2.2.2.2 = true) : boxB a b c d = true ∧ askB a b c d = (a, b, c, d, true) := by
  unfold askB at h ⊢
  split at h
  · rename_i hb; exact ⟨hb, by rw [if_pos hb]⟩
  · cases h
/-- What is true of a label's box. -/
theorem lbV_ok {x y w p : Int} {r : Bool} (hw : -9223372036854775808 ≤ w ∧ w ≤ 9223372036854775807) (h : (lbV x y r w p).2.2.2.2 = true) :
    0 ≤ p ∧ p ≤ 3 ∧ ∃ a b c d : Int, lbV x y r w p = (a, b, c, d, true) ∧ boxB a b c d = true ∧ ptB x y = true ∧ a ≤ x ∧ x ≤ c ∧ b ≤ y ∧ y ≤ d ∧ wrap64 (c - a) = w ∧ wrap64 (d - b) = 3 := by
  unfold lbV at h ⊢
  split at h
  · rename_i hc
    have hp : 0 ≤ p ∧ p ≤ 3 := by have := hc.2.2; simpa [inB] using this
    have hxy : (0 ≤ x ∧ x ≤ 200) ∧ 0 ≤ y ∧ y ≤ 200 := by have := hc.1; simpa [ptB, inB] using this
    rw [if_pos hc]
    refine ⟨hp.1, hp.2, ?_⟩
    split at h
    · rename_i ho
      rw [if_pos ho]
      split at h
      · rename_i h2
        rw [if_pos h2]
        obtain ⟨g, e⟩ := askB_ok h
        have := boxB_le g
        exact ⟨_, _, _, _, e, g, hc.1, by omega, by omega, by omega, by omega, by unfold wrap64 at this ⊢; omega, by unfold wrap64 at this ⊢; omega⟩
      · rename_i h2
        rw [if_neg h2]
        obtain ⟨g, e⟩ := askB_ok h
        have := boxB_le g
        exact ⟨_, _, _, _, e, g, hc.1, by omega, by omega, by omega, by omega, by unfold wrap64 at this ⊢; omega, by unfold wrap64 at this ⊢; omega⟩
    · rename_i ho
      rw [if_neg ho]
      split at h
      · rename_i h2
        rw [if_pos h2]
        obtain ⟨g, e⟩ := askB_ok h
        have := boxB_le g
        exact ⟨_, _, _, _, e, g, hc.1, by omega, by omega, by omega, by omega, by unfold wrap64 at this ⊢; omega, by unfold wrap64 at this ⊢; omega⟩
      · rename_i h2
        rw [if_neg h2]
        obtain ⟨g, e⟩ := askB_ok h
        have := boxB_le g
        exact ⟨_, _, _, _, e, g, hc.1, by omega, by omega, by omega, by omega, by unfold wrap64 at this ⊢; omega, by unfold wrap64 at this ⊢; omega⟩
  · cases h
/-- The corners at which there is a box, from i on. -/
def coV (lb : Int → Int × Int × Int × Int × Bool) : Nat → Int → List Int
  | 0, _ => []
  | d + 1, i => if (lb i).2.2.2.2 = true then i :: coV lb d (i + 1) else coV lb d (i + 1)
theorem coV_len (lb : Int → Int × Int × Int × Int × Bool) (d : Nat) : ∀ i, (coV lb d i).length ≤ d := by
  induction d with
  | zero => intro i; simp [coV]
  | succ d ih => intro i; rw [coV]; have := ih (i + 1); split <;> simp <;> omega
theorem coV_mem (lb : Int → Int × Int × Int × Int × Bool) (d : Nat) : ∀ i p : Int, p ∈ coV lb d i ↔ i ≤ p ∧ p < i + (d : Int) ∧ (lb p).2.2.2.2 = true := by
  induction d with
  | zero => intro i p; simp [coV]; omega
  | succ d ih =>
    intro i p
    rw [coV]
    by_cases h : (lb i).2.2.2.2 = true
    · rw [if_pos h, List.mem_cons, ih (i + 1) p]
      constructor
      · rintro (rfl | ⟨h1, h2, h3⟩)
        · exact ⟨by omega, by omega, h⟩
        · exact ⟨by omega, by push_cast; omega, h3⟩
      · rintro ⟨h1, h2, h3⟩
        by_cases e : p = i
        · exact .inl e
        · exact .inr ⟨by omega, by push_cast at h2; omega, h3⟩
    · rw [if_neg h, ih (i + 1) p]
      constructor
      · rintro ⟨h1, h2, h3⟩; exact ⟨by omega, by push_cast; omega, h3⟩
      · rintro ⟨h1, h2, h3⟩
        have e : p ≠ i := fun e => h (by rw [← e]; exact h3)
        exact ⟨by omega, by push_cast at h2; omega, h3⟩
theorem corners_i (x y : Int) (s : ByteArray) (lb : Int → Int × Int × Int × Int × Bool) (hl : ∀ p, Ev (fun k => impl_LabelBox.f k x y s p) (lb p)) (d : Nat) : ∀ (i : Int) (a : List Int), 0 ≤ i → i + (d : Int) = 4 → (a.length : Int) ≤ i → Ev (fun k => impl_CornersFor.l0 k s a i x y) (a ++ coV lb d i) := by
  induction d with
  | zero =>
    intro i a h0 hi ha
    rw [show coV lb 0 i = [] from rfl, List.append_nil]
    refine Ev.step (f := fun _ => some a) (fun k => ?_) (Ev.now _)
    simp only [impl_CornersFor.l0]; rw [if_neg (by omega)]
  | succ d ih =>
    intro i a h0 hi ha
    have hw : wrap64 (i + 1) = i + 1 := by unfold wrap64; omega
    rw [coV]
    refine Ev.step (f := fun k => (impl_LabelBox.f k x y s i).bind fun b => if b.2.2.2.2 = true then (if a.length < 17592186044416 then impl_CornersFor.l0 k s (a ++ [i]) (i + 1) x y else none) else impl_CornersFor.l0 k s a (i + 1) x y) (fun k => ?_) (Ev.bind (hl i) ?_)
    · simp only [impl_CornersFor.l0]; rw [if_pos (by omega), hw]
    · by_cases hR : (lb i).2.2.2.2 = true
      · have r := ih (i + 1) (a ++ [i]) (by omega) (by push_cast at hi; omega) (by simp; omega)
        rw [List.append_assoc, List.singleton_append] at r
        simp only [if_pos hR, if_pos (show a.length < 17592186044416 by omega)]
        exact r
      · simp only [if_neg hR]
        exact ih (i + 1) a (by omega) (by push_cast at hi; omega) (by omega)
theorem cornersF_i (x y : Int) (s : ByteArray) (lb : Int → Int × Int × Int × Int × Bool) (hl : ∀ p, Ev (fun k => impl_LabelBox.f k x y s p) (lb p)) : Ev (fun k => impl_CornersFor.f k x y s) (coV lb 4 0) := by
  have r := corners_i x y s lb hl 4 0 [] (by omega) (by omega) (by simp)
  rw [List.nil_append] at r
  exact r
def freeB (B : List S39) (R : Int × Int × Int × Int × Bool) : Bool := B.all (offB R.1 R.2.1 R.2.2.1 R.2.2.2.1)
/-- The first of these corners whose box is free; -1 if there is none. -/
def frV (B : List S39) (lb : Int → Int × Int × Int × Int × Bool) : List Int → Int
  | [] => -1
  | c :: t => if freeB B (lb c) = true then c else frV B lb t
theorem frV_cases (B : List S39) (lb : Int → Int × Int × Int × Int × Bool) : ∀ L : List Int, (frV B lb L = -1 ∧ ∀ c ∈ L, freeB B (lb c) = false) ∨ (frV B lb L ∈ L ∧ freeB B (lb (frV B lb L)) = true)
  | [] => .inl ⟨rfl, fun _ h => nomatch h⟩
  | c :: t => by
    rw [frV]
    by_cases h : freeB B (lb c) = true
    · rw [if_pos h]; exact .inr ⟨List.mem_cons_self .., h⟩
    · rw [if_neg h]
      rcases frV_cases B lb t with ⟨h1, h2⟩ | ⟨h1, h2⟩
      · exact .inl ⟨h1, fun q hq => by rcases List.mem_cons.1 hq with rfl | hq; simpa using h; exact h2 q hq⟩
      · exact .inr ⟨List.mem_cons_of_mem _ h1, h2⟩
theorem free_i (x y : Int) (s : ByteArray) (lb : Int → Int × Int × Int × Int × Bool) (hl : ∀ p, Ev (fun k => impl_LabelBox.f k x y s p) (lb p)) (B : List S39) (hB : B.length ≤ 1048576) (L : List Int) (hL : L.length ≤ 4) (n : Nat) : ∀ i : Nat, i + n = L.length → Ev (fun k => impl_FreeCorner.l0 k s B L (L.length : Int) (i : Int) x y) (frV B lb (L.drop i)) := by
  induction n with
  | zero =>
    intro i hi
    rw [List.drop_of_length_le (by omega)]
    refine Ev.step (f := fun _ => some (-1)) (fun k => ?_) (Ev.now _)
    simp only [impl_FreeCorner.l0]; rw [if_neg (by omega)]
  | succ n ih =>
    intro i hi
    have h1 : i < L.length := by omega
    have hr := ih (i + 1) (by omega)
    have hfree := isFree_l B hB (lb L[i]).1 (lb L[i]).2.1 (lb L[i]).2.2.1 (lb L[i]).2.2.2.1 B.length 0 (by omega)
    rw [List.drop_zero] at hfree
    rw [List.drop_eq_getElem_cons h1, frV]
    refine Ev.step (f := fun k => (impl_LabelBox.f k x y s L[i]).bind fun b => (impl_isFree.f k b.1 b.2.1 b.2.2.1 b.2.2.2.1 B).bind fun t => if t = true then some L[i] else impl_FreeCorner.l0 k s B L (L.length : Int) ((i + 1 : Nat) : Int) x y) (fun k => ?_) (Ev.bind (hl L[i]) (Ev.bind (show Ev (fun k => impl_isFree.f k (lb L[i]).1 (lb L[i]).2.1 (lb L[i]).2.2.1 (lb L[i]).2.2.2.1 B) (freeB B (lb L[i])) from hfree) ?_))
    · simp only [impl_FreeCorner.l0]
      rw [if_pos (by omega), if_pos (by omega), if_pos (by omega), rd_at L i h1, w1 i (by omega)]
    · by_cases hc : freeB B (lb L[i]) = true
      · rw [if_pos hc]
        simp only [if_pos hc]
        exact Ev.now _
      · rw [if_neg hc]
        simp only [if_neg hc]
        exact hr
theorem freeF_i (x y : Int) (s : ByteArray) (lb : Int → Int × Int × Int × Int × Bool) (hl : ∀ p, Ev (fun k => impl_LabelBox.f k x y s p) (lb p)) (B : List S39) (hB : B.length ≤ 1048576) : Ev (fun k => impl_FreeCorner.f k x y s B) (frV B lb (coV lb 4 0)) := by
  unfold impl_FreeCorner.f
  refine Ev.bind (cornersF_i x y s lb hl) ?_
  have r := free_i x y s lb hl B hB (coV lb 4 0) (coV_len lb 4 0) (coV lb 4 0).length 0 (by omega)
  rw [List.drop_zero] at r
  exact r
theorem and255 (x : Int) : 0 ≤ Go.bits .and .i64 x 255 ∧ Go.bits .and .i64 x 255 ≤ 255 := by
  unfold Go.bits
  have h : (BitVec.ofInt IntKind.i64.bits x &&& BitVec.ofInt IntKind.i64.bits 255).toNat ≤ 255 := by
    rw [BitVec.toNat_and]
    exact Nat.le_trans Nat.and_le_right (by decide)
  show 0 ≤ IntKind.i64.wrap ((BitVec.ofInt IntKind.i64.bits x &&& BitVec.ofInt IntKind.i64.bits 255).toNat : Int) ∧ IntKind.i64.wrap ((BitVec.ofInt IntKind.i64.bits x &&& BitVec.ofInt IntKind.i64.bits 255).toNat : Int) ≤ 255
  generalize (BitVec.ofInt IntKind.i64.bits x &&& BitVec.ofInt IntKind.i64.bits 255).toNat = n at h
  rw [IntKind.wrap_i64]
  omega
section
variable (l : List Int) (hl : l.length ≤ 9223372036854775807)
include hl
theorem byte_f (p q : Int) (h : 0 ≤ p) : ∃ v p' q' : Int, spec_l1Byte.f l p q = some (v, p', q') ∧ 0 ≤ v ∧ v ≤ 255 ∧ 0 ≤ p' := by
  unfold spec_l1Byte.f
  by_cases h1 : p < (l.length : Int)
  · rw [if_pos h1, if_pos h]
    exact ⟨_, _, _, rfl, (and255 _).1, (and255 _).2, by unfold wrap64; omega⟩
  · rw [if_neg h1]
    exact ⟨_, _, _, rfl, (and255 _).1, (and255 _).2, h⟩
theorem below_f (p q n : Int) (h : 0 ≤ p) (h1 : 0 < n) (h2 : n ≤ 256) : ∃ v p' q' : Int, spec_l1Below.f l p q n = some (v, p', q') ∧ 0 ≤ v ∧ v < n ∧ 0 ≤ p' := by
  obtain ⟨v, p', q', e, v0, _, hp⟩ := byte_f l hl p q h
  unfold spec_l1Below.f
  rw [if_neg (by omega), if_pos h2, e]
  simp only [Option.bind_some]
  rw [if_neg (by omega)]
  refine ⟨_, _, _, rfl, ?_, ?_, hp⟩
  · rw [Int.tmod_eq_emod_of_nonneg v0]; exact Int.emod_nonneg _ (by omega)
  · rw [Int.tmod_eq_emod_of_nonneg v0]; exact Int.emod_lt_of_pos _ h1
theorem once_f (p q n : Int) (h : 0 ≤ p) (h1 : 0 < n) (h2 : n ≤ 256) : ∃ (b : Bool) (p' q' : Int), spec_l1Once.f l p q n = some (b, p', q') ∧ 0 ≤ p' := by
  obtain ⟨v, p', q', e, _, _, hp⟩ := below_f l hl p q n h h1 h2
  unfold spec_l1Once.f
  rw [e]
  exact ⟨_, _, _, rfl, hp⟩
theorem int_f (p q : Int) (L : List Int) (h : 0 ≤ p) (h1 : 0 < L.length) (h2 : L.length ≤ 256) : ∃ (v p' q' : Int), spec_l1Int.f l p q L = some (v, p', q') ∧ v ∈ L ∧ 0 ≤ p' := by
  obtain ⟨v, p', q', e, v0, v1, hp⟩ := below_f l hl p q (L.length : Int) h (by omega) (by omega)
  unfold spec_l1Int.f
  rw [e]
  simp only [Option.bind_some]
  rw [if_pos v0, if_pos v1]
  refine ⟨_, _, _, rfl, ?_, hp⟩
  have hv : v.toNat < L.length := by omega
  have e2 : rd L v = L[v.toNat] := by unfold rd; rw [List.getD_eq_getElem?_getD, List.getElem?_eq_getElem hv]; rfl
  rw [e2]; exact List.getElem_mem hv
omit hl in
theorem new_l (d : Nat) : ∀ (i : Nat) (x : Int), i + d = l.length → ∃ q, Ev (fun k => spec_l1New.l0 k l x (i : Int)) (l, 0, q) := by
  induction d with
  | zero =>
    intro i x hi
    refine ⟨x, Ev.step (f := fun _ => some (l, 0, x)) (fun k => ?_) (Ev.now _)⟩
    simp only [spec_l1New.l0]
    rw [if_neg (by omega)]
  | succ d ih =>
    intro i x hi
    by_cases h : (i : Int) < 4000
    · have w1' : wrap64 ((i : Int) + 1) = ((i + 1 : Nat) : Int) := by unfold wrap64; omega
      obtain ⟨q, hq⟩ := ih (i + 1) (Go.bits .and .i64 (wrap64 ((wrap64 ((wrap64 (x * 137)) + (wrap64 (rd l (i : Int))))) + 11)) 1073741823) (by omega)
      refine ⟨q, Ev.step (fun k => ?_) hq⟩
      simp only [spec_l1New.l0]
      rw [if_pos (by omega), if_pos h, if_pos (by omega), w1']
    · refine ⟨x, Ev.step (f := fun _ => some (l, 0, x)) (fun k => ?_) (Ev.now _)⟩
      simp only [spec_l1New.l0]
      rw [if_pos (by omega), if_neg h]
omit hl in
theorem new_f : ∃ q, Ev (fun k => spec_l1New.f k l) (l, 0, q) := new_l l l.length 0 _ (by omega)
end
section
variable (l : List Int) (hl : l.length ≤ 9223372036854775807)
include hl
theorem raw_f (p q : Int) (h : 0 ≤ p) : ∃ (v p' q' : Int), spec_l4Raw.f l p q = some (v, p', q') ∧ 0 ≤ p' := by
  obtain ⟨v, p', q', e, _, hp⟩ := int_f l hl p q ([(-1), 0, 200, 201, 1000, 1001, 9223372036854775807, (-9223372036854775808)] : List Int) h (by decide) (by decide)
  unfold spec_l4Raw.f
  rw [e]
  exact ⟨_, _, _, rfl, hp⟩
theorem any4_f (p q : Int) (h : 0 ≤ p) : ∃ (x y p' q' : Int), spec_l4Any.f l p q = some (x, y, p', q') ∧ 0 ≤ p' := by
  obtain ⟨a, p1, q1, e1, _, _, hp1⟩ := below_f l hl p q 12 h (by omega) (by omega)
  obtain ⟨b, p2, q2, e2, _, _, hp2⟩ := below_f l hl p1 q1 12 hp1 (by omega) (by omega)
  obtain ⟨c, p3, q3, e3, _, _, hp3⟩ := below_f l hl p2 q2 12 hp2 (by omega) (by omega)
  obtain ⟨v, p4, q4, e4, hp4⟩ := raw_f l hl p3 q3 hp3
  unfold spec_l4Any.f spec_l4Draw.f
  simp only [e1, e2, e3, e4, Option.bind_some]
  by_cases c0 : c = 0
  · rw [if_pos c0]; exact ⟨_, _, _, _, rfl, hp4⟩
  · rw [if_neg c0]
    by_cases c1 : c = 1
    · rw [if_pos c1]; exact ⟨_, _, _, _, rfl, hp4⟩
    · rw [if_neg c1]; exact ⟨_, _, _, _, rfl, hp3⟩
theorem at_f (p q : Int) (h : 0 ≤ p) : ∃ (x y p' q' : Int), spec_l18At.f l p q = some (x, y, p', q') ∧ 0 ≤ p' := by
  obtain ⟨x, y, p1, q1, e1, hp1⟩ := any4_f l hl p q h
  obtain ⟨b, p2, q2, e2, hp2⟩ := once_f l hl p1 q1 2 hp1 (by omega) (by omega)
  obtain ⟨c, p3, q3, e3, _, _, hp3⟩ := below_f l hl p2 q2 40 hp2 (by omega) (by omega)
  obtain ⟨d, p4, q4, e4, _, _, hp4⟩ := below_f l hl p3 q3 20 hp3 (by omega) (by omega)
  unfold spec_l18At.f
  simp only [e1, e2, Option.bind_some]
  cases b
  · simp only [Bool.false_eq_true, if_false]; exact ⟨_, _, _, _, rfl, hp2⟩
  · simp only [if_true, e3, e4, Option.bind_some]; exact ⟨_, _, _, _, rfl, hp4⟩
theorem word_f (p q : Int) (h : 0 ≤ p) : ∃ (s : ByteArray) (p' q' : Int), spec_l18Word.f l p q = some (s, p', q') ∧ s.size ≤ 8 ∧ 0 ≤ p' := by
  obtain ⟨v, p', q', e, v0, v1, hp⟩ := below_f l hl p q 7 h (by omega) (by omega)
  unfold spec_l18Word.f spec_l1Str.f
  have e7 : ((([(⟨#[102, 111, 114, 100]⟩ : ByteArray), (⟨#[104, 105, 108, 108]⟩ : ByteArray), (⟨#[111, 97, 107]⟩ : ByteArray), (⟨#[108, 97, 107, 101]⟩ : ByteArray), (⟨#[97, 98, 99, 100, 101, 102, 103, 104]⟩ : ByteArray), (⟨#[]⟩ : ByteArray), (⟨#[65]⟩ : ByteArray)] : List ByteArray).length : Nat) : Int) = 7 := rfl
  rw [e7, e]
  simp only [Option.bind_some]
  rw [if_pos v0, if_pos v1]
  have hv : v = 0 ∨ v = 1 ∨ v = 2 ∨ v = 3 ∨ v = 4 ∨ v = 5 ∨ v = 6 := by omega
  rcases hv with rfl | rfl | rfl | rfl | rfl | rfl | rfl <;> (refine ⟨_, _, _, rfl, ?_, hp⟩; dsimp only; decide)
theorem dlb_f : ∃ (x y : Int) (s : ByteArray) (c : Int), Ev (fun k => spec_DrawLabelBox.f k l) (x, y, s, c) ∧ s.size ≤ 8 := by
  obtain ⟨q, hq⟩ := new_f l
  obtain ⟨x, y, p1, q1, e1, hp1⟩ := at_f l hl 0 q (by omega)
  obtain ⟨s, p2, q2, e2, hs, hp2⟩ := word_f l hl p1 q1 hp1
  obtain ⟨c, p3, q3, e3, _, _, hp3⟩ := below_f l hl p2 q2 6 hp2 (by omega) (by omega)
  refine ⟨x, y, s, wrap64 (c - 1), ?_, hs⟩
  unfold spec_DrawLabelBox.f
  refine Ev.bind hq ?_
  simp only [e1, e2, e3, Option.bind_some]
  exact Ev.now _
theorem dfc_l (x y : Int) (s : ByteArray) (d : Nat) (hd : d ≤ 4) : ∀ (B : List S39) (p q : Int), B.length + d ≤ 4 → 0 ≤ p → ∃ B' : List S39, Ev (fun k => spec_DrawFreeCorner.l0 k s B (d : Int) l p q x y) (x, y, s, B') ∧ B'.length ≤ 4 := by
  induction d with
  | zero =>
    intro B p q hB hp
    refine ⟨B, Ev.step (f := fun _ => some (x, y, s, B)) (fun k => ?_) (Ev.now _), by omega⟩
    simp only [spec_DrawFreeCorner.l0]
    rw [if_neg (by omega)]
  | succ d ih =>
    intro B p q hB hp
    obtain ⟨a, p1, q1, e1, _, _, hp1⟩ := below_f l hl p q 9 hp (by omega) (by omega)
    obtain ⟨b, p2, q2, e2, _, _, hp2⟩ := below_f l hl p1 q1 7 hp1 (by omega) (by omega)
    obtain ⟨c, p3, q3, e3, _, _, hp3⟩ := below_f l hl p2 q2 4 hp2 (by omega) (by omega)
    have hw : wrap64 (((d + 1 : Nat) : Int) - 1) = (d : Int) := by unfold wrap64; omega
    obtain ⟨u, hu⟩ : ∃ u, spec_Min.f 190 (wrap64 (wrap64 (x + a) - 4)) = some u := ⟨_, min_s _ _⟩
    obtain ⟨u', hu'⟩ : ∃ v, spec_Max.f 0 u = some v := ⟨_, max_s _ _⟩
    obtain ⟨v, hv⟩ : ∃ u, spec_Min.f 190 (wrap64 (wrap64 (y + b) - 3)) = some u := ⟨_, min_s _ _⟩
    obtain ⟨v', hv'⟩ : ∃ w, spec_Max.f 0 v = some w := ⟨_, max_s _ _⟩
    obtain ⟨R, r1, _⟩ := label_same u' v' (⟨#[97, 98]⟩ : ByteArray) c (by decide)
    by_cases hR : R.2.2.2.2 = true
    · obtain ⟨B', h1, h2⟩ := ih (by omega) (B ++ [(⟨(⟨R.1, R.2.1⟩ : S33), (⟨R.2.2.1, R.2.2.2.1⟩ : S33)⟩ : S39)]) p3 q3 (by simp; omega) hp3
      refine ⟨B', Ev.step (f := fun k => (spec_LabelBox.f k u' v' (⟨#[97, 98]⟩ : ByteArray) c).bind fun R => if R.2.2.2.2 = true then (if B.length < 4398046511104 then spec_DrawFreeCorner.l0 k s (B ++ [(⟨(⟨R.1, R.2.1⟩ : S33), (⟨R.2.2.1, R.2.2.2.1⟩ : S33)⟩ : S39)]) (d : Int) l p3 q3 x y else none) else spec_DrawFreeCorner.l0 k s B (d : Int) l p3 q3 x y) (fun k => ?_) (Ev.bind r1 ?_), h2⟩
      · simp only [spec_DrawFreeCorner.l0, e1, e2, e3, hu, hu', hv, hv', hw, Option.bind_some]
        rw [if_pos (by omega)]
      · simp only [if_pos hR, if_pos (show B.length < 4398046511104 by omega)]
        exact h1
    · obtain ⟨B', h1, h2⟩ := ih (by omega) B p3 q3 (by omega) hp3
      refine ⟨B', Ev.step (f := fun k => (spec_LabelBox.f k u' v' (⟨#[97, 98]⟩ : ByteArray) c).bind fun R => if R.2.2.2.2 = true then (if B.length < 4398046511104 then spec_DrawFreeCorner.l0 k s (B ++ [(⟨(⟨R.1, R.2.1⟩ : S33), (⟨R.2.2.1, R.2.2.2.1⟩ : S33)⟩ : S39)]) (d : Int) l p3 q3 x y else none) else spec_DrawFreeCorner.l0 k s B (d : Int) l p3 q3 x y) (fun k => ?_) (Ev.bind r1 ?_), h2⟩
      · simp only [spec_DrawFreeCorner.l0, e1, e2, e3, hu, hu', hv, hv', hw, Option.bind_some]
        rw [if_pos (by omega)]
      · simp only [if_neg hR]
        exact h1
theorem dfc_f : ∃ (x y : Int) (s : ByteArray) (B : List S39), Ev (fun k => spec_DrawFreeCorner.f k l) (x, y, s, B) ∧ s.size ≤ 8 ∧ B.length ≤ 4 := by
  obtain ⟨q, hq⟩ := new_f l
  obtain ⟨x, y, p1, q1, e1, hp1⟩ := at_f l hl 0 q (by omega)
  obtain ⟨s, p2, q2, e2, hs, hp2⟩ := word_f l hl p1 q1 hp1
  obtain ⟨c, p3, q3, e3, c0, c1, hp3⟩ := below_f l hl p2 q2 5 hp2 (by omega) (by omega)
  obtain ⟨n, rfl⟩ : ∃ n : Nat, c = (n : Int) := ⟨c.toNat, by omega⟩
  obtain ⟨B, h1, h2⟩ := dfc_l l hl x y s n (by omega) [] p3 q3 (by simp; omega) hp3
  refine ⟨x, y, s, B, ?_, hs, h2⟩
  unfold spec_DrawFreeCorner.f
  refine Ev.bind hq ?_
  simp only [e1, e2, e3, Option.bind_some]
  exact h1
end
theorem has_l (L : List Int) (hL : L.length ≤ 1000) (c : Int) (d : Nat) : ∀ i : Nat, i + d = L.length → Ev (fun k => laws_contains.l0 k L c (i : Int)) (decide (c ∈ L.drop i)) := by
  induction d with
  | zero =>
    intro i hi
    rw [List.drop_of_length_le (by omega)]
    refine Ev.step (f := fun _ => some false) (fun k => ?_) (by simpa using Ev.now false)
    simp only [laws_contains.l0]
    rw [if_neg (by omega)]
  | succ d ih =>
    intro i hi
    have h1 : i < L.length := by omega
    rw [List.drop_eq_getElem_cons h1]
    by_cases hc : L[i] = c
    · have : decide (c ∈ L[i] :: L.drop (i + 1)) = true := by simp [hc]
      rw [this]
      refine Ev.step (f := fun _ => some true) (fun k => ?_) (Ev.now _)
      simp only [laws_contains.l0]
      rw [if_pos (by omega), if_pos (by omega), rd_at L i h1, if_pos hc]
    · have : decide (c ∈ L[i] :: L.drop (i + 1)) = decide (c ∈ L.drop (i + 1)) := decide_eq_decide.2 (by rw [List.mem_cons]; exact ⟨fun h => h.resolve_left (fun e => hc e.symm), .inr⟩)
      rw [this]
      refine Ev.step (fun k => ?_) (ih (i + 1) (by omega))
      simp only [laws_contains.l0]
      rw [if_pos (by omega), if_pos (by omega), rd_at L i h1, if_neg hc, w1 i (by omega)]
theorem has_f (L : List Int) (hL : L.length ≤ 1000) (c : Int) : Ev (fun k => laws_contains.f k L c) (decide (c ∈ L)) := by
  have := has_l L hL c L.length 0 (by omega)
  rw [List.drop_zero] at this
  exact this
/-- A name's width is a number that Go has. -/
theorem width_i (s : ByteArray) (hs : s.size ≤ 9223372036854775807) : ∃ w, Ev (fun k => impl_NameWidth.f k s) w ∧ -9223372036854775808 ≤ w ∧ w ≤ 9223372036854775807 := by
  obtain ⟨r, _, h2⟩ := name_same s hs
  refine ⟨if r = true then wrap64 (2 * (s.size : Int)) else 0, ?_, by split <;> (try unfold wrap64) <;> omega, by split <;> (try unfold wrap64) <;> omega⟩
  unfold impl_NameWidth.f
  refine Ev.bind h2 ?_
  cases r
  · simp only [Bool.false_eq_true, if_false]; exact Ev.now _
  · simp only [if_true]; exact Ev.now _
theorem corner_word {c : Int} (h : 0 ≤ c ∧ c ≤ 3) : ¬ (cornerN c).toList = ([] : List UInt8) := by
  have : c = 0 ∨ c = 1 ∨ c = 2 ∨ c = 3 := by omega
  rw [ByteArray.toList_eq]
  rcases this with rfl | rfl | rfl | rfl <;> decide
/-- No corner is free: what the law looks at. -/
theorem miss_l (x y : Int) (s : ByteArray) (lb : Int → Int × Int × Int × Int × Bool) (hl : ∀ p, Ev (fun k => impl_LabelBox.f k x y s p) (lb p)) (B : List S39) (hB : B.length ≤ 1000) (L : List Int) (hL : L.length ≤ 1000) (hno : ∀ c ∈ L, freeB B (lb c) = false) (d : Nat) : ∀ i : Nat, i + d = L.length → Ev (fun k => laws_FnLabels.l0 k s B L (i : Int) x y) true := by
  induction d with
  | zero =>
    intro i hi
    refine Ev.step (f := fun _ => some true) (fun k => ?_) (Ev.now _)
    simp only [laws_FnLabels.l0]
    rw [if_neg (by omega)]
  | succ d ih =>
    intro i hi
    have h1 : i < L.length := by omega
    have hr := ih (i + 1) (by omega)
    have hf := hno L[i] (List.getElem_mem h1)
    generalize hR : lb L[i] = R at hf
    have inner : ∀ (e : Nat) (j : Nat) (hit : Bool), j + e = B.length → (hit || !(B.drop j).all (offB R.1 R.2.1 R.2.2.1 R.2.2.2.1)) = true → Ev (fun k => laws_FnLabels.l1 k s B L (i : Int) hit (j : Int) x y R.1 R.2.1 R.2.2.1 R.2.2.2.1) true := by
      intro e
      induction e with
      | zero =>
        intro j hit hj hh
        rw [List.drop_of_length_le (by omega)] at hh
        have hh : hit = true := by simpa using hh
        subst hh
        refine Ev.step (fun k => ?_) hr
        simp only [laws_FnLabels.l1, if_true]
        rw [if_neg (by omega), w1 i (by omega)]
      | succ e ihe =>
        intro j hit hj hh
        have h2 : j < B.length := by omega
        cases hit with
        | true =>
          refine Ev.step (fun k => ?_) (ihe (j + 1) true (by omega) (by simp))
          simp only [laws_FnLabels.l1, if_true]
          rw [if_pos (by omega), w1 j (by omega)]
        | false =>
          rw [List.drop_eq_getElem_cons h2, List.all_cons] at hh
          refine Ev.step (fun k => ?_) (ihe (j + 1) (ovB R.1 R.2.1 R.2.2.1 R.2.2.2.1 B[j].f0.f0 B[j].f0.f1 B[j].f1.f0 B[j].f1.f1) (by omega) ?_)
          · simp only [laws_FnLabels.l1, Bool.false_eq_true, if_false, ov_i, Option.bind_some]
            rw [if_pos (by omega), if_pos (by omega), rdBx_at B j h2, w1 j (by omega)]
          · unfold offB at hh ⊢
            cases hq : ovB R.1 R.2.1 R.2.2.1 R.2.2.2.1 B[j].f0.f0 B[j].f0.f1 B[j].f1.f0 B[j].f1.f1
            · rw [hq] at hh; simpa using hh
            · rfl
    refine Ev.step (f := fun k => (impl_LabelBox.f k x y s L[i]).bind fun b => laws_FnLabels.l1 k s B L (i : Int) false ((0 : Nat) : Int) x y b.1 b.2.1 b.2.2.1 b.2.2.2.1) (fun k => ?_) (Ev.bind (hl L[i]) ?_)
    · simp only [laws_FnLabels.l0]
      rw [if_pos (by omega), if_pos (by omega), rd_at L i h1]
      rfl
    · rw [hR]
      refine inner B.length 0 false (by omega) ?_
      unfold freeB at hf
      rw [List.drop_zero, hf]
      rfl
theorem hit_l (B : List S39) (hB : B.length ≤ 1000) (c : Int) (L : List Int) (hL : L.length ≤ 1000) (hc : c ∈ L) (a b e f : Int) (hf : B.all (offB a b e f) = true) (d : Nat) : ∀ j : Nat, j + d = B.length → Ev (fun k => laws_FnLabels.l2 k B c L true (j : Int) a b e f) true := by
  induction d with
  | zero =>
    intro j hj
    refine Ev.step (f := fun k => (laws_contains.f k L c).bind fun t => some t) (fun k => ?_) (Ev.bind (has_f L hL c) ?_)
    · simp only [laws_FnLabels.l2, if_true]
      rw [if_neg (by omega)]
    · rw [decide_eq_true hc]; exact Ev.now _
  | succ d ih =>
    intro j hj
    have h2 : j < B.length := by omega
    have hj2 : offB a b e f B[j] = true := List.all_eq_true.1 hf _ (List.getElem_mem h2)
    have hq : ovB a b e f B[j].f0.f0 B[j].f0.f1 B[j].f1.f0 B[j].f1.f1 = false := by unfold offB at hj2; simpa using hj2
    refine Ev.step (fun k => ?_) (ih (j + 1) (by omega))
    simp only [laws_FnLabels.l2, ov_i]
    rw [if_pos (by omega), if_pos (by omega), rdBx_at B j h2, hq, w1 j (by omega)]
    simp
theorem main : ∀ (l0 : List (Int)), (l0.length ≤ 9223372036854775807 ∧ ∀ x ∈ l0, (Lit.int .u8 x).wf = true) → ∃ k, laws_FnLabels.f k l0 = some true := by
  intro l h1
  refine Ev.rounds (r := true) ?_
  have hl : l.length ≤ 9223372036854775807 := h1.1
  unfold laws_FnLabels.f laws_big.f
  simp only [Option.bind_some]
  by_cases hb : (l.length : Int) > 1048576
  · simp only [decide_eq_true hb, if_true]; exact Ev.now _
  · simp only [decide_eq_false hb, Bool.false_eq_true, if_false]
    -- the second half
    obtain ⟨x2, y2, s2, B, d2, hs2, hB⟩ := dfc_f l hl
    have second : Ev (fun k => laws_FnLabels.j0 k l false) true := by
      obtain ⟨r2, _, n2⟩ := name_same s2 (by omega)
      obtain ⟨w2, v2, wb2⟩ := width_i s2 (by omega)
      have hlb := fun p => label_i x2 y2 s2 r2 w2 n2 v2 p
      have c2 := cornersF_i x2 y2 s2 (lbV x2 y2 r2 w2) hlb
      have f2 := freeF_i x2 y2 s2 (lbV x2 y2 r2 w2) hlb B (by omega)
      have hlen := coV_len (lbV x2 y2 r2 w2) 4 0
      have hcase := frV_cases B (lbV x2 y2 r2 w2) (coV (lbV x2 y2 r2 w2) 4 0)
      have hmem := coV_mem (lbV x2 y2 r2 w2) 4 0
      generalize coV (lbV x2 y2 r2 w2) 4 0 = L at c2 f2 hlen hcase hmem
      generalize frV B (lbV x2 y2 r2 w2) L = v at f2 hcase
      refine Ev.step (f := fun k => (spec_DrawFreeCorner.f k l).bind fun bt332 => ((impl_FreeCorner.f k bt332.1 bt332.2.1 bt332.2.2.1 bt332.2.2.2).bind fun t339 => ((impl_CornersFor.f k bt332.1 bt332.2.1 bt332.2.2.1).bind fun t340 => (if t339 = (-1) then (laws_FnLabels.l0 k bt332.2.2.1 bt332.2.2.2 t340 0 bt332.1 bt332.2.1) else ((impl_LabelBox.f k bt332.1 bt332.2.1 bt332.2.2.1 t339).bind fun bt352 => (laws_FnLabels.l2 k bt332.2.2.2 t339 t340 bt352.2.2.2.2 0 bt352.1 bt352.2.1 bt352.2.2.1 bt352.2.2.2.1)))))) (fun k => by simp only [laws_FnLabels.j0, Bool.false_eq_true, if_false]) (Ev.bind d2 (Ev.bind f2 (Ev.bind c2 ?_)))
      by_cases hv : v = -1
      · simp only [if_pos hv]
        refine miss_l x2 y2 s2 (lbV x2 y2 r2 w2) hlb B (by omega) L (by omega) ?_ L.length 0 (by omega)
        rcases hcase with ⟨_, h⟩ | ⟨h, _⟩
        · exact h
        · exfalso
          have := (hmem v).1 h
          omega
      · simp only [if_neg hv]
        rcases hcase with ⟨h, _⟩ | ⟨h, hfree⟩
        · exact absurd h hv
        · refine Ev.bind (hlb v) ?_
          have hok := ((hmem v).1 h).2.2
          generalize lbV x2 y2 r2 w2 v = R at hok hfree
          simp only [hok]
          exact hit_l B (by omega) v L (by omega) h R.1 R.2.1 R.2.2.1 R.2.2.2.1 hfree B.length 0 (by omega)
    -- the first half
    obtain ⟨x, y, s, c, d1, hs⟩ := dlb_f l hl
    obtain ⟨r, _, n1⟩ := name_same s (by omega)
    obtain ⟨w, v1, wb⟩ := width_i s (by omega)
    have hlb := fun p => label_i x y s r w n1 v1 p
    have c1 := cornersF_i x y s (lbV x y r w) hlb
    have hlen := coV_len (lbV x y r w) 4 0
    have hmem := coV_mem (lbV x y r w) 4 0
    generalize coV (lbV x y r w) 4 0 = L at c1 hlen hmem
    have hh := has_f L (by omega) c
    refine Ev.bind d1 (Ev.bind (hlb c) ?_)
    cases hok : (lbV x y r w c).2.2.2.2
    · simp only [Bool.false_eq_true, if_false]
      have hn : decide (c ∈ L) = false := decide_eq_false (fun h => by have := ((hmem c).1 h).2.2; rw [hok] at this; cases this)
      rw [hn] at hh
      refine Ev.bind c1 (Ev.bind hh ?_)
      exact second
    · obtain ⟨c0, c3, a, b, e, f, hR, hbox, hpt, g1, g2, g3, g4, g5, g6⟩ := lbV_ok wb hok
      have hy : decide (c ∈ L) = true := decide_eq_true ((hmem c).2 ⟨c0, by omega, hok⟩)
      rw [hy] at hh
      rw [hR]
      simp only [if_true, box_i, hbox, Option.bind_some]
      have hin : impl_InBox.f a b e f x y = some true := by
        unfold impl_InBox.f
        simp only [box_i, hbox, Option.bind_some, if_true, in_i]
        rw [show inB x a e = true by simp [inB, g1, g2], show inB y b f = true by simp [inB, g3, g4]]
        rfl
      simp only [hin, Option.bind_some, if_true]
      refine Ev.bind v1 ?_
      simp only [if_pos g5, if_pos g6, impl_CornerName.f, Option.bind_some, if_neg (corner_word ⟨c0, c3⟩)]
      refine Ev.bind c1 (Ev.bind hh ?_)
      exact second
end Go.Proofs.Ytlclpggodhodiaa.Pure.FnLabels
