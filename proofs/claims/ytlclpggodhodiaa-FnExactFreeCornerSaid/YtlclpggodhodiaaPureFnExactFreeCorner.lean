/- The first free corner: the same answer. No condition. -/
import Derived.Test.YtlclpggodhodiaaPFnExactFreeCornerx
namespace Go.Proofs.Ytlclpggodhodiaa.Pure.FnExactFreeCorner
open Go Go.RowKit Go.Proofs.Ytlclpggodhodiaa.PFnExactFreeCorner Go.Proofs.YtlclpggodhodiaaW.PrintWords Go.Proofs.YtlclpggodhodiaaW.PrintLast Go.Proofs.YtlclpggodhodiaaW.PrintMore
set_option linter.unusedVariables false
set_option linter.unusedSimpArgs false
theorem w1 (i : Nat) (h : i < 9223372036854775807) : wrap64 ((i : Int) + 1) = ((i + 1 : Nat) : Int) := by unfold wrap64; omega
theorem rd_at (l : List Int) (i : Nat) (h : i < l.length) : rd l (i : Int) = l[i] := by
  unfold rd
  rw [Int.toNat_natCast, List.getD_eq_getElem?_getD, List.getElem?_eq_getElem h]
  rfl
theorem l1 (a b c : Int) : ∃ r, spec_l1In.f a b c = some r ∧ impl_InRange.f a b c = some r := by
  unfold spec_l1In.f impl_InRange.f
  by_cases h : a ≥ b
  · rw [if_pos h]; exact ⟨_, rfl, rfl⟩
  · rw [if_neg h]; exact ⟨_, rfl, rfl⟩
theorem wrap_up {i n : Int} (h0 : 0 ≤ i) (h : i < n) (hn : n ≤ 9223372036854775807) : wrap64 (i + 1) = i + 1 := by unfold wrap64; omega
theorem name_loop (s : ByteArray) (hs : s.size ≤ 9223372036854775807) (d : Nat) : ∀ i : Int, 0 ≤ i → (s.size : Int) - i = d → ∃ r, Ev (fun k => spec_IsName.l0 k s i) r ∧ Ev (fun k => impl_IsName.l0 k s (s.size : Int) i) r := by
  induction d with
  | zero =>
    intro i h0 hd
    obtain ⟨r, h1, h2⟩ := l1 (s.size : Int) 1 8
    refine ⟨r, Ev.step (f := fun _ => some r) (fun k => ?_) (Ev.now r), Ev.step (f := fun _ => some r) (fun k => ?_) (Ev.now r)⟩
    · simp only [spec_IsName.l0]; rw [if_neg (by omega), h1]; rfl
    · simp only [impl_IsName.l0]; rw [if_neg (by omega), h2]; rfl
  | succ d ih =>
    intro i h0 hd
    have hlt : i < (s.size : Int) := by omega
    by_cases hc : bt s i < 97
    · refine ⟨false, Ev.step (f := fun _ => some false) (fun k => ?_) (Ev.now _), Ev.step (f := fun _ => some false) (fun k => ?_) (Ev.now _)⟩
      · simp only [spec_IsName.l0]; rw [if_pos hlt, if_pos h0, if_pos hc]
      · simp only [impl_IsName.l0]; rw [if_pos hlt, if_pos h0, if_pos hlt, if_pos hc]
    · by_cases hc' : bt s i > 122
      · refine ⟨false, Ev.step (f := fun _ => some false) (fun k => ?_) (Ev.now _), Ev.step (f := fun _ => some false) (fun k => ?_) (Ev.now _)⟩
        · simp only [spec_IsName.l0]; rw [if_pos hlt, if_pos h0, if_neg hc, if_pos hc']
        · simp only [impl_IsName.l0]; rw [if_pos hlt, if_pos h0, if_pos hlt, if_neg hc, if_pos hc']
      · obtain ⟨r, h1, h2⟩ := ih (i + 1) (by omega) (by omega)
        refine ⟨r, Ev.step (fun k => ?_) h1, Ev.step (fun k => ?_) h2⟩
        · simp only [spec_IsName.l0]; rw [if_pos hlt, if_pos h0, if_neg hc, if_neg hc', wrap_up h0 hlt (by omega)]
        · simp only [impl_IsName.l0]; rw [if_pos hlt, if_pos h0, if_pos hlt, if_neg hc, if_neg hc', wrap_up h0 hlt (by omega)]
theorem name_same (s : ByteArray) (hs : s.size ≤ 9223372036854775807) : ∃ r, Ev (fun k => spec_IsName.f k s) r ∧ Ev (fun k => impl_IsName.f k s) r := by
  obtain ⟨r, h1, h2⟩ := name_loop s hs s.size 0 (by omega) (by omega)
  exact ⟨r, h1, h2⟩
theorem width_same (s : ByteArray) (hs : s.size ≤ 9223372036854775807) : ∃ r, Ev (fun k => spec_NameWidth.f k s) r ∧ Ev (fun k => impl_NameWidth.f k s) r := by
  obtain ⟨r, h1, h2⟩ := name_same s hs
  refine ⟨if r = true then wrap64 (2 * (s.size : Int)) else 0, ?_, ?_⟩
  · unfold spec_NameWidth.f
    refine Ev.bind h1 ?_
    cases r
    · simp only [Bool.false_eq_true, if_false]; exact Ev.now _
    · simp only [if_true]; exact Ev.now _
  · unfold impl_NameWidth.f
    refine Ev.bind h2 ?_
    cases r
    · simp only [Bool.false_eq_true, if_false]; exact Ev.now _
    · simp only [if_true]; exact Ev.now _
def inB (a b c : Int) : Bool := decide (b ≤ a) && decide (a ≤ c)
theorem in_s (a b c : Int) : spec_l1In.f a b c = some (inB a b c) := by
  unfold spec_l1In.f inB
  by_cases h : a ≥ b
  · rw [if_pos h, decide_eq_true (show b ≤ a from h)]; rfl
  · rw [if_neg h, decide_eq_false (show ¬ b ≤ a from h)]; rfl
theorem in_i (a b c : Int) : impl_InRange.f a b c = some (inB a b c) := in_s a b c
def ptB (x y : Int) : Bool := inB x 0 200 && inB y 0 200
theorem pt_s (x y : Int) : spec_IsPoint.f x y = some (ptB x y) := by
  unfold spec_IsPoint.f ptB
  rw [in_s, in_s]
  cases inB x 0 200 <;> rfl
theorem pt_i (x y : Int) : impl_IsPoint.f x y = some (ptB x y) := by
  unfold impl_IsPoint.f ptB
  rw [in_i, in_i]
  cases inB x 0 200 <;> rfl
def boxB (a b c d : Int) : Bool := ptB a b && (ptB c d && (decide (a ≤ c) && decide (b ≤ d)))
theorem box_s (a b c d : Int) : spec_IsBox.f a b c d = some (boxB a b c d) := by
  unfold spec_IsBox.f boxB
  rw [pt_s, pt_s]
  cases ptB a b
  · rfl
  · cases ptB c d
    · rfl
    · by_cases h : a ≤ c
      · simp [h]
      · simp [h]
theorem box_i (a b c d : Int) : impl_IsBox.f a b c d = some (boxB a b c d) := by
  unfold impl_IsBox.f boxB
  rw [pt_i, pt_i]
  cases ptB a b
  · rfl
  · cases ptB c d
    · rfl
    · by_cases h : a ≤ c
      · simp [h]
      · simp [h]
/-- The answer for a box: itself when it is one. -/
def askB (a b c d : Int) : Int × Int × Int × Int × Bool := if boxB a b c d = true then (a, b, c, d, true) else (0, 0, 0, 0, false)
theorem label_same (x y : Int) (s : ByteArray) (p : Int) (hs : s.size ≤ 9223372036854775807) : ∃ R, Ev (fun k => spec_LabelBox.f k x y s p) R ∧ Ev (fun k => impl_LabelBox.f k x y s p) R := by
  obtain ⟨r, n1, n2⟩ := name_same s hs
  obtain ⟨w, w1, w2⟩ := width_same s hs
  have no_s : Ev (fun k => spec_LabelBox.j0 k s p true x y) (0, 0, 0, 0, false) := Ev.step (f := fun _ => some (0, 0, 0, 0, false)) (fun k => by simp [spec_LabelBox.j0]) (Ev.now _)
  have no_i : Ev (fun k => impl_LabelBox.j0 k s p true x y) (0, 0, 0, 0, false) := Ev.step (f := fun _ => some (0, 0, 0, 0, false)) (fun k => by simp [impl_LabelBox.j0]) (Ev.now _)
  have j1_s : ∀ a b c d : Int, Ev (fun k => spec_LabelBox.j1 k p x y a b c d) (if p ≥ 2 then askB a (wrap64 (y - 3)) c y else askB a b c d) := by
    intro a b c d
    refine Ev.step (f := fun _ => some (if p ≥ 2 then askB a (wrap64 (y - 3)) c y else askB a b c d)) (fun k => ?_) (Ev.now _)
    simp only [spec_LabelBox.j1, box_s, Option.bind_some]
    unfold askB
    split
    · split <;> rfl
    · split <;> rfl
  have j1_i : ∀ a b c d : Int, Ev (fun k => impl_LabelBox.j1 k p a b c d) (if p < 2 then askB a b c (wrap64 (d + 3)) else askB a (wrap64 (b - 3)) c d) := by
    intro a b c d
    refine Ev.step (f := fun _ => some (if p < 2 then askB a b c (wrap64 (d + 3)) else askB a (wrap64 (b - 3)) c d)) (fun k => ?_) (Ev.now _)
    simp only [impl_LabelBox.j1, box_i, Option.bind_some]
    unfold askB
    split
    · split <;> rfl
    · split <;> rfl
  unfold spec_LabelBox.f impl_LabelBox.f
  simp only [pt_s, pt_i, in_s, in_i, Option.bind_some]
  by_cases hp : ptB x y = true
  · simp only [if_pos hp]
    cases r with
    | false =>
      refine ⟨(0, 0, 0, 0, false), Ev.bind n1 ?_, Ev.bind n2 ?_⟩
      · simp only [Bool.false_eq_true, if_false]; exact no_s
      · simp only [Bool.false_eq_true, if_false]; exact no_i
    | true =>
      cases hc : inB p 0 3 with
      | false =>
        refine ⟨(0, 0, 0, 0, false), Ev.bind n1 ?_, Ev.bind n2 ?_⟩
        · simp only [if_true, Bool.not_false]; exact no_s
        · simp only [if_true, Bool.not_false]; exact no_i
      | true =>
        have hr : 0 ≤ p ∧ p ≤ 3 := by simpa [inB] using hc
        have ht : Int.tmod p 2 = p % 2 := Int.tmod_eq_emod_of_nonneg hr.1
        by_cases ho : p % 2 = 1
        · refine ⟨if p ≥ 2 then askB (wrap64 (x - w)) (wrap64 (y - 3)) x y else askB (wrap64 (x - w)) y x (wrap64 (y + 3)), Ev.bind n1 ?_, Ev.bind n2 ?_⟩
          · simp only [if_true, Bool.not_true]
            refine Ev.step (f := fun k => (spec_NameWidth.f k s).bind fun t => (spec_NameWidth.f k s).bind fun u => spec_LabelBox.j1 k p x y (wrap64 (x - u)) y x (wrap64 (y + 3))) (fun k => ?_) (Ev.bind w1 (Ev.bind w1 (j1_s _ _ _ _)))
            simp only [spec_LabelBox.j0, Bool.false_eq_true, if_false, ht, if_pos ho]
          · simp only [if_true, Bool.not_true]
            have := j1_i (wrap64 (x - w)) y x y
            have e : (if p < 2 then askB (wrap64 (x - w)) y x (wrap64 (y + 3)) else askB (wrap64 (x - w)) (wrap64 (y - 3)) x y) = (if p ≥ 2 then askB (wrap64 (x - w)) (wrap64 (y - 3)) x y else askB (wrap64 (x - w)) y x (wrap64 (y + 3))) := by
              by_cases h2 : p ≥ 2
              · rw [if_pos h2, if_neg (by omega)]
              · rw [if_neg h2, if_pos (by omega)]
            rw [e] at this
            refine Ev.step (f := fun k => (impl_NameWidth.f k s).bind fun t => impl_LabelBox.j1 k p (wrap64 (x - t)) y x y) (fun k => ?_) (Ev.bind w2 this)
            simp only [impl_LabelBox.j0, Bool.false_eq_true, if_false, ht, if_neg (show ¬ p % 2 = 0 by omega)]
        · refine ⟨if p ≥ 2 then askB x (wrap64 (y - 3)) (wrap64 (x + w)) y else askB x y (wrap64 (x + w)) (wrap64 (y + 3)), Ev.bind n1 ?_, Ev.bind n2 ?_⟩
          · simp only [if_true, Bool.not_true]
            refine Ev.step (f := fun k => (spec_NameWidth.f k s).bind fun t => spec_LabelBox.j1 k p x y x y (wrap64 (x + t)) (wrap64 (y + 3))) (fun k => ?_) (Ev.bind w1 (j1_s _ _ _ _))
            simp only [spec_LabelBox.j0, Bool.false_eq_true, if_false, ht, if_neg ho]
          · simp only [if_true, Bool.not_true]
            have := j1_i x y (wrap64 (x + w)) y
            have e : (if p < 2 then askB x y (wrap64 (x + w)) (wrap64 (y + 3)) else askB x (wrap64 (y - 3)) (wrap64 (x + w)) y) = (if p ≥ 2 then askB x (wrap64 (y - 3)) (wrap64 (x + w)) y else askB x y (wrap64 (x + w)) (wrap64 (y + 3))) := by
              by_cases h2 : p ≥ 2
              · rw [if_pos h2, if_neg (by omega)]
              · rw [if_neg h2, if_pos (by omega)]
            rw [e] at this
            refine Ev.step (f := fun k => (impl_NameWidth.f k s).bind fun t => impl_LabelBox.j1 k p x y (wrap64 (x + t)) y) (fun k => ?_) (Ev.bind w2 this)
            simp only [impl_LabelBox.j0, Bool.false_eq_true, if_false, ht, if_pos (show p % 2 = 0 by omega)]
  · simp only [if_neg hp]
    exact ⟨_, no_s, no_i⟩
theorem corners_l (x y : Int) (s : ByteArray) (hs : s.size ≤ 9223372036854775807) (d : Nat) : ∀ (i : Int) (a : List Int), 0 ≤ i → i + (d : Int) = 4 → (a.length : Int) ≤ i → ∃ L : List Int, L.length ≤ 4 ∧ Ev (fun k => spec_CornersFor.l0 k s a i x y) L ∧ Ev (fun k => impl_CornersFor.l0 k s a i x y) L := by
  induction d with
  | zero =>
    intro i a h0 hi ha
    refine ⟨a, by omega, Ev.step (f := fun _ => some a) (fun k => ?_) (Ev.now _), Ev.step (f := fun _ => some a) (fun k => ?_) (Ev.now _)⟩
    · simp only [spec_CornersFor.l0]; rw [if_neg (by omega)]
    · simp only [impl_CornersFor.l0]; rw [if_neg (by omega)]
  | succ d ih =>
    intro i a h0 hi ha
    obtain ⟨R, e1, e2⟩ := label_same x y s i hs
    have hw : wrap64 (i + 1) = i + 1 := by unfold wrap64; omega
    by_cases hR : R.2.2.2.2 = true
    · obtain ⟨L, hL, f1, f2⟩ := ih (i + 1) (a ++ [i]) (by omega) (by omega) (by simp; omega)
      refine ⟨L, hL, ?_, ?_⟩
      · refine Ev.step (f := fun k => (spec_LabelBox.f k x y s i).bind fun b => if b.2.2.2.2 = true then (if a.length < 17592186044416 then spec_CornersFor.l0 k s (a ++ [i]) (i + 1) x y else none) else spec_CornersFor.l0 k s a (i + 1) x y) (fun k => ?_) (Ev.bind e1 ?_)
        · simp only [spec_CornersFor.l0]; rw [if_pos (by omega), hw]
        · simp only [if_pos hR, if_pos (show a.length < 17592186044416 by omega)]; exact f1
      · refine Ev.step (f := fun k => (impl_LabelBox.f k x y s i).bind fun b => if b.2.2.2.2 = true then (if a.length < 17592186044416 then impl_CornersFor.l0 k s (a ++ [i]) (i + 1) x y else none) else impl_CornersFor.l0 k s a (i + 1) x y) (fun k => ?_) (Ev.bind e2 ?_)
        · simp only [impl_CornersFor.l0]; rw [if_pos (by omega), hw]
        · simp only [if_pos hR, if_pos (show a.length < 17592186044416 by omega)]; exact f2
    · obtain ⟨L, hL, f1, f2⟩ := ih (i + 1) a (by omega) (by omega) (by omega)
      refine ⟨L, hL, ?_, ?_⟩
      · refine Ev.step (f := fun k => (spec_LabelBox.f k x y s i).bind fun b => if b.2.2.2.2 = true then (if a.length < 17592186044416 then spec_CornersFor.l0 k s (a ++ [i]) (i + 1) x y else none) else spec_CornersFor.l0 k s a (i + 1) x y) (fun k => ?_) (Ev.bind e1 ?_)
        · simp only [spec_CornersFor.l0]; rw [if_pos (by omega), hw]
        · simp only [if_neg hR]; exact f1
      · refine Ev.step (f := fun k => (impl_LabelBox.f k x y s i).bind fun b => if b.2.2.2.2 = true then (if a.length < 17592186044416 then impl_CornersFor.l0 k s (a ++ [i]) (i + 1) x y else none) else impl_CornersFor.l0 k s a (i + 1) x y) (fun k => ?_) (Ev.bind e2 ?_)
        · simp only [impl_CornersFor.l0]; rw [if_pos (by omega), hw]
        · simp only [if_neg hR]; exact f2
theorem corners_same (x y : Int) (s : ByteArray) (hs : s.size ≤ 9223372036854775807) : ∃ L : List Int, L.length ≤ 4 ∧ Ev (fun k => spec_CornersFor.f k x y s) L ∧ Ev (fun k => impl_CornersFor.f k x y s) L := by
  obtain ⟨L, hL, f1, f2⟩ := corners_l x y s hs 4 0 [] (by omega) (by omega) (by simp)
  exact ⟨L, hL, f1, f2⟩
def ovB (a b c d e f g h : Int) : Bool := boxB a b c d && (boxB e f g h && (decide (mx a e < mn c g) && decide (mx b f < mn d h)))
theorem min_s (a b : Int) : spec_Min.f a b = some (mn a b) := by
  unfold spec_Min.f mn
  (repeat' split) <;> first | rfl | (congr 1; omega)
theorem max_s (a b : Int) : spec_Max.f a b = some (mx a b) := by
  unfold spec_Max.f mx
  (repeat' split) <;> first | rfl | (congr 1; omega)
theorem ov_s (a b c d e f g h : Int) : spec_BoxesOverlap.f a b c d e f g h = some (ovB a b c d e f g h) := by
  unfold spec_BoxesOverlap.f ovB
  simp only [box_s, max_s, min_s, Option.bind_some]
  cases boxB a b c d
  · rfl
  · cases boxB e f g h
    · rfl
    · by_cases h1 : mx a e < mn c g
      · simp [h1]
      · simp [h1]
theorem box_bound {a b c d : Int} (h : boxB a b c d = true) : 0 ≤ a ∧ a ≤ 200 ∧ 0 ≤ b ∧ b ≤ 200 ∧ 0 ≤ c ∧ c ≤ 200 ∧ 0 ≤ d ∧ d ≤ 200 := by
  simp only [boxB, ptB, inB, Bool.and_eq_true, decide_eq_true_eq] at h
  omega
theorem mn_bound (a b : Int) (h : 0 ≤ a ∧ a ≤ 200) (h' : 0 ≤ b ∧ b ≤ 200) : 0 ≤ mn a b ∧ mn a b ≤ 200 := by unfold mn; split <;> omega
theorem mx_bound (a b : Int) (h : 0 ≤ a ∧ a ≤ 200) (h' : 0 ≤ b ∧ b ≤ 200) : 0 ≤ mx a b ∧ mx a b ≤ 200 := by unfold mx; split <;> omega
theorem wrap_mid {a : Int} (h : -1000 ≤ a) (h' : a ≤ 1000) : wrap64 a = a := by unfold wrap64; omega
theorem ov_i (a b c d e f g h : Int) : impl_BoxesOverlap.f a b c d e f g h = some (ovB a b c d e f g h) := by
  unfold impl_BoxesOverlap.f impl_common.f ovB
  simp only [box_i, Option.bind_some]
  cases h1 : boxB a b c d
  · rfl
  · cases h2 : boxB e f g h
    · rfl
    · have b1 := box_bound h1
      have b2 := box_bound h2
      have m1 := mn_bound c g (by omega) (by omega)
      have m2 := mx_bound a e (by omega) (by omega)
      have m3 := mn_bound d h (by omega) (by omega)
      have m4 := mx_bound b f (by omega) (by omega)
      rw [wrap_mid (a := mn c g - mx a e) (by omega) (by omega), wrap_mid (a := mn d h - mx b f) (by omega) (by omega)]
      by_cases h3 : mx a e < mn c g
      · simp only [if_true, if_pos (show mn c g - mx a e > 0 by omega), decide_eq_true h3, Bool.true_and]
        rw [decide_eq_decide.2 (show mn d h - mx b f > 0 ↔ mx b f < mn d h by omega)]
      · simp only [if_true, if_neg (show ¬ mn c g - mx a e > 0 by omega), decide_eq_false h3, Bool.true_and, Bool.false_and]
theorem mx_comm (a b : Int) : mx a b = mx b a := by unfold mx; (repeat' split) <;> omega
theorem mn_comm (a b : Int) : mn a b = mn b a := by unfold mn; (repeat' split) <;> omega
theorem ov_comm (a b c d e f g h : Int) : ovB a b c d e f g h = ovB e f g h a b c d := by
  unfold ovB
  rw [mx_comm a e, mx_comm b f, mn_comm c g, mn_comm d h]
  cases boxB a b c d <;> cases boxB e f g h <;> simp
theorem rdb_at (l : List S69) (i : Nat) (h : i < l.length) : rd_T69 l (i : Int) = l[i] := by
  unfold rd_T69
  rw [Int.toNat_natCast, List.getD_eq_getElem?_getD, List.getElem?_eq_getElem h]
  rfl
theorem rdB_at (l : List S39) (i : Nat) (h : i < l.length) : rd_T39 l (i : Int) = l[i] := by
  unfold rd_T39
  rw [Int.toNat_natCast, List.getD_eq_getElem?_getD, List.getElem?_eq_getElem h]
  rfl
def convB (x : S69) : S39 := ⟨(⟨x.f0.f0, x.f0.f1⟩ : S33), (⟨x.f1.f0, x.f1.f1⟩ : S33)⟩
theorem toBoxes_l (l : List S69) (hb : l.length < 9223372036854775807) (d : Nat) : ∀ i : Nat, i + d = l.length → Ev (fun k => laws_toBoxS.l0 k l ((l.map convB).take i ++ List.replicate d z39) (i : Int)) (l.map convB) := by
  induction d with
  | zero =>
    intro i hi
    refine Ev.step (f := fun _ => some (l.map convB)) (fun k => ?_) (Ev.now _)
    simp only [laws_toBoxS.l0]
    rw [if_neg (by omega), List.take_of_length_le (by simp; omega)]
    simp
  | succ d ih =>
    intro i hi
    have h1 : i < l.length := by omega
    refine Ev.step (fun k => ?_) (ih (i + 1) (by omega))
    simp only [laws_toBoxS.l0, laws_toBox.f, laws_toPoint.f, Option.bind_some]
    rw [if_pos (by omega), if_pos (by omega), if_pos (by simp; omega), rdb_at l i h1, w1 i (by omega)]
    congr 1
    have hm : i < (l.map convB).length := by simpa using h1
    rw [Int.toNat_natCast, List.set_append_right _ _ (by simp; omega), List.take_succ_eq_append_getElem hm, List.replicate_succ]
    simp only [List.length_take, List.length_map, Nat.min_eq_left (show i ≤ l.length by omega), Nat.sub_self, List.set_cons_zero, List.append_assoc, List.singleton_append, List.getElem_map, convB]
theorem toBoxes (l : List S69) (hb : l.length ≤ 1048576) : Ev (fun k => laws_toBoxS.f k l) (l.map convB) := by
  unfold laws_toBoxS.f
  simp only [if_pos (show (0 : Int) ≤ (l.length : Int) by omega), Int.toNat_natCast, if_pos (show l.length ≤ 8796093022208 by omega)]
  have := toBoxes_l l (by omega) l.length 0 (by omega)
  simpa using this
theorem eqBoxes_l (l : List S39) (hb : l.length < 9223372036854775807) (d : Nat) : ∀ i : Nat, i + d = l.length → Ev (fun k => laws_eqBoxS.l0 k l l (i : Int)) true := by
  induction d with
  | zero =>
    intro i hi
    refine Ev.step (f := fun _ => some true) (fun k => ?_) (Ev.now _)
    simp only [laws_eqBoxS.l0]
    rw [if_neg (by omega)]
  | succ d ih =>
    intro i hi
    have h1 : i < l.length := by omega
    refine Ev.step (fun k => ?_) (ih (i + 1) (by omega))
    simp only [laws_eqBoxS.l0, laws_eqBox.f, laws_eqPoint.f]
    rw [if_pos (by omega), if_pos (by omega), if_pos (by omega), w1 i (by omega)]
    simp
theorem eqBoxes (l : List S39) (hb : l.length < 9223372036854775807) : Ev (fun k => laws_eqBoxS.f k l l) true := by
  unfold laws_eqBoxS.f
  simp only [if_true]
  exact eqBoxes_l l hb l.length 0 (by omega)
def offB (a b c d : Int) (x : S39) : Bool := !ovB a b c d x.f0.f0 x.f0.f1 x.f1.f0 x.f1.f1
theorem isFree_l (B : List S39) (hB : B.length ≤ 1048576) (a b c d : Int) (n : Nat) : ∀ j : Nat, j + n = B.length → Ev (fun k => impl_isFree.l0 k B (B.length : Int) (j : Int) a b c d) ((B.drop j).all (offB a b c d)) := by
  induction n with
  | zero =>
    intro j hj
    have e : B.drop j = [] := List.drop_of_length_le (by omega)
    rw [e]
    refine Ev.step (f := fun _ => some true) (fun k => ?_) (Ev.now _)
    simp only [impl_isFree.l0]
    rw [if_neg (by omega)]
  | succ n ih =>
    intro j hj
    have h1 : j < B.length := by omega
    rw [List.drop_eq_getElem_cons h1, List.all_cons]
    cases hv : ovB a b c d B[j].f0.f0 B[j].f0.f1 B[j].f1.f0 B[j].f1.f1 with
    | true =>
      have e : offB a b c d B[j] = false := by unfold offB; rw [hv]; rfl
      rw [e, Bool.false_and]
      refine Ev.step (f := fun _ => some false) (fun k => ?_) (Ev.now _)
      simp only [impl_isFree.l0, ov_i]
      rw [if_pos (by omega), if_pos (by omega), if_pos (by omega), rdB_at B j h1, hv]
      simp
    | false =>
      have e : offB a b c d B[j] = true := by unfold offB; rw [hv]; rfl
      rw [e, Bool.true_and]
      refine Ev.step (fun k => ?_) (ih (j + 1) (by omega))
      simp only [impl_isFree.l0, ov_i]
      rw [if_pos (by omega), if_pos (by omega), if_pos (by omega), rdB_at B j h1, hv, w1 j (by omega)]
      simp
theorem freeS_l (x y : Int) (s : ByteArray) (B : List S39) (hB : B.length ≤ 1048576) (L : List Int) (i : Nat) (hi : i < L.length) (hL : L.length ≤ 4) (a b c d : Int) (v : Int) (n : Nat) :
    ∀ (j : Nat) (fl : Bool), j + n = B.length → (if (fl && (B.drop j).all (offB a b c d)) = true then L[i] = v else Ev (fun k => spec_FreeCorner.l0 k s B L ((i + 1 : Nat) : Int) x y) v) → Ev (fun k => spec_FreeCorner.l1 k s B L (i : Int) fl (j : Int) x y a b c d) v := by
  induction n with
  | zero =>
    intro j fl hj h
    have e : B.drop j = [] := List.drop_of_length_le (by omega)
    rw [e] at h
    cases fl with
    | true =>
      have h' : L[i] = v := by simpa using h
      refine Ev.step (f := fun _ => some v) (fun k => ?_) (Ev.now _)
      simp only [spec_FreeCorner.l1, if_true]
      rw [if_neg (by omega), if_pos (by omega), if_pos (by omega), rd_at L i hi, h']
    | false =>
      simp only [Bool.false_and, Bool.false_eq_true, if_false] at h
      refine Ev.step (fun k => ?_) h
      simp only [spec_FreeCorner.l1, Bool.false_eq_true, if_false]
      rw [if_neg (by omega), w1 i (by omega)]
  | succ n ih =>
    intro j fl hj h
    have h1 : j < B.length := by omega
    rw [List.drop_eq_getElem_cons h1, List.all_cons] at h
    cases fl with
    | true =>
      rw [Bool.true_and] at h
      refine Ev.step (fun k => ?_) (ih (j + 1) (offB a b c d B[j]) (by omega) h)
      simp only [spec_FreeCorner.l1, if_true, ov_s, Option.bind_some]
      rw [if_pos (by omega), if_pos (by omega), rdB_at B j h1, w1 j (by omega)]
      rfl
    | false =>
      refine Ev.step (fun k => ?_) (ih (j + 1) false (by omega) (by simpa using h))
      simp only [spec_FreeCorner.l1, Bool.false_eq_true, if_false]
      rw [if_pos (by omega), w1 j (by omega)]
theorem free_l (x y : Int) (s : ByteArray) (hs : s.size ≤ 9223372036854775807) (B : List S39) (hB : B.length ≤ 1048576) (L : List Int) (hL : L.length ≤ 4) (n : Nat) : ∀ i : Nat, i + n = L.length → ∃ v, Ev (fun k => spec_FreeCorner.l0 k s B L (i : Int) x y) v ∧ Ev (fun k => impl_FreeCorner.l0 k s B L (L.length : Int) (i : Int) x y) v := by
  induction n with
  | zero =>
    intro i hi
    refine ⟨-1, Ev.step (f := fun _ => some (-1)) (fun k => ?_) (Ev.now _), Ev.step (f := fun _ => some (-1)) (fun k => ?_) (Ev.now _)⟩
    · simp only [spec_FreeCorner.l0]; rw [if_neg (by omega)]
    · simp only [impl_FreeCorner.l0]; rw [if_neg (by omega)]
  | succ n ih =>
    intro i hi
    have h1 : i < L.length := by omega
    obtain ⟨R, e1, e2⟩ := label_same x y s L[i] hs
    obtain ⟨u, f1, f2⟩ := ih (i + 1) (by omega)
    have hfree := isFree_l B hB R.1 R.2.1 R.2.2.1 R.2.2.2.1 B.length 0 (by omega)
    rw [List.drop_zero] at hfree
    have spec : ∀ v, (if (true && (B.drop 0).all (offB R.1 R.2.1 R.2.2.1 R.2.2.2.1)) = true then L[i] = v else Ev (fun k => spec_FreeCorner.l0 k s B L ((i + 1 : Nat) : Int) x y) v) → Ev (fun k => spec_FreeCorner.l0 k s B L (i : Int) x y) v := by
      intro v hv
      refine Ev.step (f := fun k => (spec_LabelBox.f k x y s L[i]).bind fun b => spec_FreeCorner.l1 k s B L (i : Int) true ((0 : Nat) : Int) x y b.1 b.2.1 b.2.2.1 b.2.2.2.1) (fun k => ?_) (Ev.bind e1 (freeS_l x y s B hB L i h1 hL _ _ _ _ v B.length 0 true (by omega) hv))
      simp only [spec_FreeCorner.l0]
      rw [if_pos (by omega), if_pos (by omega), rd_at L i h1]
      rfl
    have impl : ∀ v, (if B.all (offB R.1 R.2.1 R.2.2.1 R.2.2.2.1) = true then L[i] = v else Ev (fun k => impl_FreeCorner.l0 k s B L (L.length : Int) ((i + 1 : Nat) : Int) x y) v) → Ev (fun k => impl_FreeCorner.l0 k s B L (L.length : Int) (i : Int) x y) v := by
      intro v hv
      refine Ev.step (f := fun k => (impl_LabelBox.f k x y s L[i]).bind fun b => (impl_isFree.f k b.1 b.2.1 b.2.2.1 b.2.2.2.1 B).bind fun t => if t = true then some L[i] else impl_FreeCorner.l0 k s B L (L.length : Int) ((i + 1 : Nat) : Int) x y) (fun k => ?_) (Ev.bind e2 (Ev.bind (show Ev (fun k => impl_isFree.f k R.1 R.2.1 R.2.2.1 R.2.2.2.1 B) _ from hfree) ?_))
      · simp only [impl_FreeCorner.l0]
        rw [if_pos (by omega), if_pos (by omega), if_pos (by omega), rd_at L i h1, w1 i (by omega)]
      · by_cases hc : B.all (offB R.1 R.2.1 R.2.2.1 R.2.2.2.1) = true
        · rw [if_pos hc] at hv
          simp only [if_pos hc, hv]
          exact Ev.now _
        · rw [if_neg hc] at hv
          simp only [if_neg hc]
          exact hv
    by_cases hc : B.all (offB R.1 R.2.1 R.2.2.1 R.2.2.2.1) = true
    · exact ⟨L[i], spec _ (by rw [List.drop_zero, Bool.true_and, if_pos hc]), impl _ (by rw [if_pos hc])⟩
    · exact ⟨u, spec _ (by rw [List.drop_zero, Bool.true_and, if_neg hc]; exact f1), impl _ (by rw [if_neg hc]; exact f2)⟩
theorem main : ∀ (a0_0 : Int) (a0_1 : Int) (a1 : ByteArray) (l2 : List (S69)), (Lit.int .i64 a0_0).wf = true → (Lit.int .i64 a0_1).wf = true → a1.size ≤ 9223372036854775807 → (l2.length ≤ 9223372036854775807 ∧ ∀ x ∈ l2, (((Lit.int .i64 x.f0.f0).wf = true ∧ (Lit.int .i64 x.f0.f1).wf = true) ∧ ((Lit.int .i64 x.f1.f0).wf = true ∧ (Lit.int .i64 x.f1.f1).wf = true))) → ∃ k, laws_FnExactFreeCorner.f k a0_0 a0_1 a1 l2 = some true := by
  intro x y s l _ _ hs hl
  refine Ev.rounds (r := true) ?_
  unfold laws_FnExactFreeCorner.f laws_toPoint.f laws_szBoxS.f
  by_cases hb : (s.size : Int) > 1048576
  · simp only [if_pos hb]; exact Ev.now _
  · have hw : wrap64 (1048576 - (l.length : Int)) = 1048576 - (l.length : Int) := by have := hl.1; unfold wrap64; omega
    simp only [if_neg hb, hw]
    by_cases hc : 1048576 - (l.length : Int) < 0
    · simp only [if_pos hc, Option.bind_some, if_pos (show (-1 : Int) < 0 by omega)]; exact Ev.now _
    · simp only [if_neg hc, Option.bind_some]
      have ht := toBoxes l (by omega)
      have hm : (l.map convB).length ≤ 1048576 := by simp; omega
      generalize l.map convB = B at ht hm
      obtain ⟨L, hL, c1, c2⟩ := corners_same x y s hs
      obtain ⟨v, f1, f2⟩ := free_l x y s hs B hm L hL L.length 0 (by omega)
      have g1 : Ev (fun k => spec_FreeCorner.f k x y s B) v := by unfold spec_FreeCorner.f; exact Ev.bind c1 f1
      have g2 : Ev (fun k => impl_FreeCorner.f k x y s B) v := by unfold impl_FreeCorner.f; exact Ev.bind c2 f2
      refine Ev.bind ht (Ev.bind g1 (Ev.bind ht (Ev.bind g2 ?_)))
      simp only [if_true]
      refine Ev.bind ht (Ev.bind (eqBoxes B (by omega)) ?_)
      simp only [if_true]
      exact Ev.now _
end Go.Proofs.Ytlclpggodhodiaa.Pure.FnExactFreeCorner
