/- The program's CornersFor and the reference's answer the same list. No condition. -/
import Derived.Test.YtlclpggodhodiaaPFnExactCornersForx
namespace Go.Proofs.Ytlclpggodhodiaa.Pure.FnExactCornersFor
open Go Go.RowKit Go.Proofs.Ytlclpggodhodiaa.PFnExactCornersFor Go.Proofs.YtlclpggodhodiaaW.PrintWords Go.Proofs.YtlclpggodhodiaaW.PrintLast Go.Proofs.YtlclpggodhodiaaW.PrintMore
set_option linter.unusedVariables false
set_option linter.unusedSimpArgs false
theorem w1 (i : Nat) (h : i < 9223372036854775807) : wrap64 ((i : Int) + 1) = ((i + 1 : Nat) : Int) := by unfold wrap64; omega
theorem rd_at (l : List Int) (i : Nat) (h : i < l.length) : rd l (i : Int) = l[i] := by
  unfold rd
  rw [Int.toNat_natCast, List.getD_eq_getElem?_getD, List.getElem?_eq_getElem h]
  rfl
theorem eqInts_l (a b : List Int) (hl : a.length = b.length) (hb : a.length < 9223372036854775807) (d : Nat) : ∀ i : Nat, i + d = a.length → Ev (fun k => laws_eqIntS.l0 k a b (i : Int)) (decide (a.drop i = b.drop i)) := by
  induction d with
  | zero =>
    intro i hi
    refine Ev.step (f := fun _ => some (decide (a.drop i = b.drop i))) (fun k => ?_) (Ev.now _)
    simp only [laws_eqIntS.l0]
    rw [if_neg (by omega), List.drop_of_length_le (by omega), List.drop_of_length_le (by omega)]
    simp
  | succ d ih =>
    intro i hi
    have h1 : i < a.length := by omega
    have h2 : i < b.length := by omega
    have ea := List.drop_eq_getElem_cons h1
    have eb := List.drop_eq_getElem_cons h2
    by_cases he : a[i] = b[i]
    · have := ih (i + 1) (by omega)
      have e : decide (a.drop i = b.drop i) = decide (a.drop (i + 1) = b.drop (i + 1)) := decide_eq_decide.2 (by rw [ea, eb, List.cons.injEq]; exact ⟨fun h => h.2, fun h => ⟨he, h⟩⟩)
      rw [e]
      refine Ev.step (fun k => ?_) this
      simp only [laws_eqIntS.l0]
      rw [if_pos (by omega), if_pos (by omega), if_pos (by omega), rd_at a i h1, rd_at b i h2, if_pos he, w1 i (by omega)]
    · have e : decide (a.drop i = b.drop i) = false := decide_eq_false (by rw [ea, eb, List.cons.injEq]; exact fun h => he h.1)
      rw [e]
      refine Ev.step (f := fun _ => some false) (fun k => ?_) (Ev.now _)
      simp only [laws_eqIntS.l0]
      rw [if_pos (by omega), if_pos (by omega), if_pos (by omega), rd_at a i h1, rd_at b i h2, if_neg he]
theorem eqInts (a b : List Int) (hb : a.length < 9223372036854775807) : Ev (fun k => laws_eqIntS.f k a b) (decide (a = b)) := by
  unfold laws_eqIntS.f
  by_cases hl : a.length = b.length
  · simp only [if_pos (show (a.length : Int) = (b.length : Int) by omega)]
    have := eqInts_l a b hl hb a.length 0 (by omega)
    simpa using this
  · simp only [if_neg (show ¬ (a.length : Int) = (b.length : Int) by omega)]
    have e : decide (a = b) = false := by simp; intro h; exact hl (by rw [h])
    rw [e]
    exact Ev.now _
def marks (v : Int) (n : Nat) : List Int := (List.range n).map fun (j : Nat) => v + (j : Int)
theorem marks_zero (v : Int) : marks v 0 = [] := rfl
theorem marks_succ (v : Int) (n : Nat) : marks v (n + 1) = v :: marks (v + 1) n := by
  unfold marks
  rw [List.range_succ_eq_map]
  simp only [List.map_cons, List.map_map, List.cons.injEq]
  refine ⟨by simp, List.map_congr_left fun j _ => ?_⟩
  simp only [Function.comp]
  omega
theorem wrapv (v : Int) (h0 : 0 ≤ v) (h : v < 9223372036854775807) : wrap64 (v + 1) = v + 1 := by unfold wrap64; omega
theorem markInts_l (suf : List Int) : ∀ (pre : List Int) (v : Int), 0 ≤ v → pre.length + suf.length < 4611686018427387904 → v + (suf.length : Int) < 4611686018427387904 →
    Ev (fun k => laws_markIntS.l0 k (pre ++ suf) v (pre.length : Int)) (v + (suf.length : Int), pre ++ marks v suf.length) := by
  induction suf with
  | nil =>
    intro pre v h0 h1 h2
    refine Ev.step (f := fun _ => some (v + (([] : List Int).length : Int), pre ++ marks v 0)) (fun k => ?_) (Ev.now _)
    simp only [laws_markIntS.l0]
    rw [if_neg (by simp)]
    simp [marks_zero]
  | cons x suf ih =>
    intro pre v h0 h1 h2
    simp only [List.length_cons] at h1 h2
    have := ih (pre ++ [v]) (v + 1) (by omega) (by simp; omega) (by omega)
    have e : (v + 1 + (suf.length : Int), (pre ++ [v]) ++ marks (v + 1) suf.length) = (v + ((x :: suf).length : Int), pre ++ marks v (x :: suf).length) := by
      simp only [List.length_cons, marks_succ, List.append_assoc, List.singleton_append, Prod.mk.injEq, and_true]
      omega
    rw [e] at this
    refine Ev.step (fun k => ?_) this
    simp only [laws_markIntS.l0]
    rw [if_pos (by simp; omega), if_pos (by omega), wrapv v h0 (by omega), w1 pre.length (by omega)]
    congr 1
    · rw [Int.toNat_natCast, List.set_append_right _ _ (Nat.le_refl _), Nat.sub_self]
      simp
    · simp
theorem markInts (l : List Int) (h : l.length < 2305843009213693952) : Ev (fun k => laws_markIntS.f k l 1) (1 + (l.length : Int), marks 1 l.length) := by
  have := markInts_l l [] 1 (by omega) (by simp; omega) (by omega)
  simpa [laws_markIntS.f] using this
theorem heldInts_l (n : Nat) : ∀ (pre : List Int) (v : Int), 0 ≤ v → pre.length + n < 4611686018427387904 → v + (n : Int) < 4611686018427387904 →
    Ev (fun k => laws_heldIntS.l0 k (pre ++ marks v n) v (pre.length : Int)) (v + (n : Int)) := by
  induction n with
  | zero =>
    intro pre v h0 h1 h2
    refine Ev.step (f := fun _ => some (v + ((0 : Nat) : Int))) (fun k => ?_) (Ev.now _)
    simp only [laws_heldIntS.l0]
    rw [if_neg (by simp [marks_zero])]
    simp
  | succ n ih =>
    intro pre v h0 h1 h2
    have := ih (pre ++ [v]) (v + 1) (by omega) (by simp; omega) (by omega)
    have e : (pre ++ [v]) ++ marks (v + 1) n = pre ++ marks v (n + 1) := by rw [marks_succ]; simp
    have e2 : v + 1 + (n : Int) = v + ((n + 1 : Nat) : Int) := by omega
    rw [e, e2] at this
    refine Ev.step (fun k => ?_) this
    simp only [laws_heldIntS.l0]
    have hlen : (pre ++ marks v (n + 1)).length = pre.length + (n + 1) := by simp [marks]
    rw [if_pos (by rw [hlen]; omega), if_pos (by omega), rd_at _ pre.length (by rw [hlen]; omega)]
    rw [if_pos (by simp [marks_succ]), wrapv v h0 (by omega), w1 pre.length (by omega)]
    congr 1
    simp
theorem heldInts (n : Nat) (h : n < 2305843009213693952) : Ev (fun k => laws_heldIntS.f k (marks 1 n) 1) (1 + (n : Int)) := by
  have := heldInts_l n [] 1 (by omega) (by simp; omega) (by omega)
  simpa [laws_heldIntS.f] using this
theorem l1 (a b c : Int) : ∃ r, spec_l1In.f a b c = some r ∧ impl_InRange.f a b c = some r := by
  unfold spec_l1In.f impl_InRange.f
  by_cases h : a ≥ b
  · rw [if_pos h]; exact ⟨_, rfl, rfl⟩
  · rw [if_neg h]; exact ⟨_, rfl, rfl⟩
theorem wrap_up {i n : Int} (h0 : 0 ≤ i) (h : i < n) (hn : n ≤ 9223372036854775807) : wrap64 (i + 1) = i + 1 := by unfold wrap64; omega
theorem name_loop (s : ByteArray) (hs : s.size ≤ 9223372036854775807) (d : Nat) : ∀ i : Int, 0 ≤ i → (s.size : Int) - i = d → ∃ r, Ev (fun k => spec_IsName.l0 k s i) r ∧ Ev (fun k => impl_IsName.l0 k s (s.size : Int) i) r := by
  induction d with
  | zero =>
    intro i h0 hd
    obtain ⟨r, h1, h2⟩ := l1 (s.size : Int) 1 8
    refine ⟨r, Ev.step (f := fun _ => some r) (fun k => ?_) (Ev.now r), Ev.step (f := fun _ => some r) (fun k => ?_) (Ev.now r)⟩
    · simp only [spec_IsName.l0]; rw [if_neg (by omega), h1]; rfl
    · simp only [impl_IsName.l0]; rw [if_neg (by omega), h2]; rfl
  | succ d ih =>
    intro i h0 hd
    have hlt : i < (s.size : Int) := by omega
    by_cases hc : bt s i < 97
    · refine ⟨false, Ev.step (f := fun _ => some false) (fun k => ?_) (Ev.now _), Ev.step (f := fun _ => some false) (fun k => ?_) (Ev.now _)⟩
      · simp only [spec_IsName.l0]; rw [if_pos hlt, if_pos h0, if_pos hc]
      · simp only [impl_IsName.l0]; rw [if_pos hlt, if_pos h0, if_pos hlt, if_pos hc]
    · by_cases hc' : bt s i > 122
      · refine ⟨false, Ev.step (f := fun _ => some false) (fun k => ?_) (Ev.now _), Ev.step (f := fun _ => some false) (fun k => ?_) (Ev.now _)⟩
        · simp only [spec_IsName.l0]; rw [if_pos hlt, if_pos h0, if_neg hc, if_pos hc']
        · simp only [impl_IsName.l0]; rw [if_pos hlt, if_pos h0, if_pos hlt, if_neg hc, if_pos hc']
      · obtain ⟨r, h1, h2⟩ := ih (i + 1) (by omega) (by omega)
        refine ⟨r, Ev.step (fun k => ?_) h1, Ev.step (fun k => ?_) h2⟩
        · simp only [spec_IsName.l0]; rw [if_pos hlt, if_pos h0, if_neg hc, if_neg hc', wrap_up h0 hlt (by omega)]
        · simp only [impl_IsName.l0]; rw [if_pos hlt, if_pos h0, if_pos hlt, if_neg hc, if_neg hc', wrap_up h0 hlt (by omega)]
theorem name_same (s : ByteArray) (hs : s.size ≤ 9223372036854775807) : ∃ r, Ev (fun k => spec_IsName.f k s) r ∧ Ev (fun k => impl_IsName.f k s) r := by
  obtain ⟨r, h1, h2⟩ := name_loop s hs s.size 0 (by omega) (by omega)
  exact ⟨r, h1, h2⟩
theorem width_same (s : ByteArray) (hs : s.size ≤ 9223372036854775807) : ∃ r, Ev (fun k => spec_NameWidth.f k s) r ∧ Ev (fun k => impl_NameWidth.f k s) r := by
  obtain ⟨r, h1, h2⟩ := name_same s hs
  refine ⟨if r = true then wrap64 (2 * (s.size : Int)) else 0, ?_, ?_⟩
  · unfold spec_NameWidth.f
    refine Ev.bind h1 ?_
    cases r
    · simp only [Bool.false_eq_true, if_false]; exact Ev.now _
    · simp only [if_true]; exact Ev.now _
  · unfold impl_NameWidth.f
    refine Ev.bind h2 ?_
    cases r
    · simp only [Bool.false_eq_true, if_false]; exact Ev.now _
    · simp only [if_true]; exact Ev.now _
def inB (a b c : Int) : Bool := decide (b ≤ a) && decide (a ≤ c)
theorem in_s (a b c : Int) : spec_l1In.f a b c = some (inB a b c) := by
  unfold spec_l1In.f inB
  by_cases h : a ≥ b
  · rw [if_pos h, decide_eq_true (show b ≤ a from h)]; rfl
  · rw [if_neg h, decide_eq_false (show ¬ b ≤ a from h)]; rfl
theorem in_i (a b c : Int) : impl_InRange.f a b c = some (inB a b c) := in_s a b c
def ptB (x y : Int) : Bool := inB x 0 200 && inB y 0 200
theorem pt_s (x y : Int) : spec_IsPoint.f x y = some (ptB x y) := by
  unfold spec_IsPoint.f ptB
  rw [in_s, in_s]
  cases inB x 0 200 <;> rfl
theorem pt_i (x y : Int) : impl_IsPoint.f x y = some (ptB x y) := by
  unfold impl_IsPoint.f ptB
  rw [in_i, in_i]
  cases inB x 0 200 <;> rfl
def boxB (a b c d : Int) : Bool := ptB a b && (ptB c d && (decide (a ≤ c) && decide (b ≤ d)))
theorem box_s (a b c d : Int) : spec_IsBox.f a b c d = some (boxB a b c d) := by
  unfold spec_IsBox.f boxB
  rw [pt_s, pt_s]
  cases ptB a b
  · rfl
  · cases ptB c d
    · rfl
    · by_cases h : a ≤ c
      · simp [h]
      · simp [h]
theorem box_i (a b c d : Int) : impl_IsBox.f a b c d = some (boxB a b c d) := by
  unfold impl_IsBox.f boxB
  rw [pt_i, pt_i]
  cases ptB a b
  · rfl
  · cases ptB c d
    · rfl
    · by_cases h : a ≤ c
      · simp [h]
      · simp [h]
/-- The answer for a box: itself when it is one. -/
def askB (a b c d : Int) : Int × Int × Int × Int × Bool := if boxB a b c d = true then (a, b, c, d, true) else (0, 0, 0, 0, false)
theorem label_same (x y : Int) (s : ByteArray) (p : Int) (hs : s.size ≤ 9223372036854775807) : ∃ R, Ev (fun k => spec_LabelBox.f k x y s p) R ∧ Ev (fun k => impl_LabelBox.f k x y s p) R := by
  obtain ⟨r, n1, n2⟩ := name_same s hs
  obtain ⟨w, w1, w2⟩ := width_same s hs
  have no_s : Ev (fun k => spec_LabelBox.j0 k s p true x y) (0, 0, 0, 0, false) := Ev.step (f := fun _ => some (0, 0, 0, 0, false)) (fun k => by simp [spec_LabelBox.j0]) (Ev.now _)
  have no_i : Ev (fun k => impl_LabelBox.j0 k s p true x y) (0, 0, 0, 0, false) := Ev.step (f := fun _ => some (0, 0, 0, 0, false)) (fun k => by simp [impl_LabelBox.j0]) (Ev.now _)
  have j1_s : ∀ a b c d : Int, Ev (fun k => spec_LabelBox.j1 k p x y a b c d) (if p ≥ 2 then askB a (wrap64 (y - 3)) c y else askB a b c d) := by
    intro a b c d
    refine Ev.step (f := fun _ => some (if p ≥ 2 then askB a (wrap64 (y - 3)) c y else askB a b c d)) (fun k => ?_) (Ev.now _)
    simp only [spec_LabelBox.j1, box_s, Option.bind_some]
    unfold askB
    split
    · split <;> rfl
    · split <;> rfl
  have j1_i : ∀ a b c d : Int, Ev (fun k => impl_LabelBox.j1 k p a b c d) (if p < 2 then askB a b c (wrap64 (d + 3)) else askB a (wrap64 (b - 3)) c d) := by
    intro a b c d
    refine Ev.step (f := fun _ => some (if p < 2 then askB a b c (wrap64 (d + 3)) else askB a (wrap64 (b - 3)) c d)) (fun k => ?_) (Ev.now _)
    simp only [impl_LabelBox.j1, box_i, Option.bind_some]
    unfold askB
    split
    · split <;> rfl
    · split <;> rfl
  unfold spec_LabelBox.f impl_LabelBox.f
  simp only [pt_s, pt_i, in_s, in_i, Option.bind_some]
  by_cases hp : ptB x y = true
  · simp only [if_pos hp]
    cases r with
    | false =>
      refine ⟨(0, 0, 0, 0, false), Ev.bind n1 ?_, Ev.bind n2 ?_⟩
      · simp only [Bool.false_eq_true, if_false]; exact no_s
      · simp only [Bool.false_eq_true, if_false]; exact no_i
    | true =>
      cases hc : inB p 0 3 with
      | false =>
        refine ⟨(0, 0, 0, 0, false), Ev.bind n1 ?_, Ev.bind n2 ?_⟩
        · simp only [if_true, Bool.not_false]; exact no_s
        · simp only [if_true, Bool.not_false]; exact no_i
      | true =>
        have hr : 0 ≤ p ∧ p ≤ 3 := by simpa [inB] using hc
        have ht : Int.tmod p 2 = p % 2 := Int.tmod_eq_emod_of_nonneg hr.1
        by_cases ho : p % 2 = 1
        · refine ⟨if p ≥ 2 then askB (wrap64 (x - w)) (wrap64 (y - 3)) x y else askB (wrap64 (x - w)) y x (wrap64 (y + 3)), Ev.bind n1 ?_, Ev.bind n2 ?_⟩
          · simp only [if_true, Bool.not_true]
            refine Ev.step (f := fun k => (spec_NameWidth.f k s).bind fun t => (spec_NameWidth.f k s).bind fun u => spec_LabelBox.j1 k p x y (wrap64 (x - u)) y x (wrap64 (y + 3))) (fun k => ?_) (Ev.bind w1 (Ev.bind w1 (j1_s _ _ _ _)))
            simp only [spec_LabelBox.j0, Bool.false_eq_true, if_false, ht, if_pos ho]
          · simp only [if_true, Bool.not_true]
            have := j1_i (wrap64 (x - w)) y x y
            have e : (if p < 2 then askB (wrap64 (x - w)) y x (wrap64 (y + 3)) else askB (wrap64 (x - w)) (wrap64 (y - 3)) x y) = (if p ≥ 2 then askB (wrap64 (x - w)) (wrap64 (y - 3)) x y else askB (wrap64 (x - w)) y x (wrap64 (y + 3))) := by
              by_cases h2 : p ≥ 2
              · rw [if_pos h2, if_neg (by omega)]
              · rw [if_neg h2, if_pos (by omega)]
            rw [e] at this
            refine Ev.step (f := fun k => (impl_NameWidth.f k s).bind fun t => impl_LabelBox.j1 k p (wrap64 (x - t)) y x y) (fun k => ?_) (Ev.bind w2 this)
            simp only [impl_LabelBox.j0, Bool.false_eq_true, if_false, ht, if_neg (show ¬ p % 2 = 0 by omega)]
        · refine ⟨if p ≥ 2 then askB x (wrap64 (y - 3)) (wrap64 (x + w)) y else askB x y (wrap64 (x + w)) (wrap64 (y + 3)), Ev.bind n1 ?_, Ev.bind n2 ?_⟩
          · simp only [if_true, Bool.not_true]
            refine Ev.step (f := fun k => (spec_NameWidth.f k s).bind fun t => spec_LabelBox.j1 k p x y x y (wrap64 (x + t)) (wrap64 (y + 3))) (fun k => ?_) (Ev.bind w1 (j1_s _ _ _ _))
            simp only [spec_LabelBox.j0, Bool.false_eq_true, if_false, ht, if_neg ho]
          · simp only [if_true, Bool.not_true]
            have := j1_i x y (wrap64 (x + w)) y
            have e : (if p < 2 then askB x y (wrap64 (x + w)) (wrap64 (y + 3)) else askB x (wrap64 (y - 3)) (wrap64 (x + w)) y) = (if p ≥ 2 then askB x (wrap64 (y - 3)) (wrap64 (x + w)) y else askB x y (wrap64 (x + w)) (wrap64 (y + 3))) := by
              by_cases h2 : p ≥ 2
              · rw [if_pos h2, if_neg (by omega)]
              · rw [if_neg h2, if_pos (by omega)]
            rw [e] at this
            refine Ev.step (f := fun k => (impl_NameWidth.f k s).bind fun t => impl_LabelBox.j1 k p x y (wrap64 (x + t)) y) (fun k => ?_) (Ev.bind w2 this)
            simp only [impl_LabelBox.j0, Bool.false_eq_true, if_false, ht, if_pos (show p % 2 = 0 by omega)]
  · simp only [if_neg hp]
    exact ⟨_, no_s, no_i⟩
theorem corners_l (x y : Int) (s : ByteArray) (hs : s.size ≤ 9223372036854775807) (d : Nat) : ∀ (i : Int) (a : List Int), 0 ≤ i → i + (d : Int) = 4 → (a.length : Int) ≤ i → ∃ L : List Int, L.length ≤ 4 ∧ Ev (fun k => spec_CornersFor.l0 k s a i x y) L ∧ Ev (fun k => impl_CornersFor.l0 k s a i x y) L := by
  induction d with
  | zero =>
    intro i a h0 hi ha
    refine ⟨a, by omega, Ev.step (f := fun _ => some a) (fun k => ?_) (Ev.now _), Ev.step (f := fun _ => some a) (fun k => ?_) (Ev.now _)⟩
    · simp only [spec_CornersFor.l0]; rw [if_neg (by omega)]
    · simp only [impl_CornersFor.l0]; rw [if_neg (by omega)]
  | succ d ih =>
    intro i a h0 hi ha
    obtain ⟨R, e1, e2⟩ := label_same x y s i hs
    have hw : wrap64 (i + 1) = i + 1 := by unfold wrap64; omega
    by_cases hR : R.2.2.2.2 = true
    · obtain ⟨L, hL, f1, f2⟩ := ih (i + 1) (a ++ [i]) (by omega) (by omega) (by simp; omega)
      refine ⟨L, hL, ?_, ?_⟩
      · refine Ev.step (f := fun k => (spec_LabelBox.f k x y s i).bind fun b => if b.2.2.2.2 = true then (if a.length < 17592186044416 then spec_CornersFor.l0 k s (a ++ [i]) (i + 1) x y else none) else spec_CornersFor.l0 k s a (i + 1) x y) (fun k => ?_) (Ev.bind e1 ?_)
        · simp only [spec_CornersFor.l0]; rw [if_pos (by omega), hw]
        · simp only [if_pos hR, if_pos (show a.length < 17592186044416 by omega)]; exact f1
      · refine Ev.step (f := fun k => (impl_LabelBox.f k x y s i).bind fun b => if b.2.2.2.2 = true then (if a.length < 17592186044416 then impl_CornersFor.l0 k s (a ++ [i]) (i + 1) x y else none) else impl_CornersFor.l0 k s a (i + 1) x y) (fun k => ?_) (Ev.bind e2 ?_)
        · simp only [impl_CornersFor.l0]; rw [if_pos (by omega), hw]
        · simp only [if_pos hR, if_pos (show a.length < 17592186044416 by omega)]; exact f2
    · obtain ⟨L, hL, f1, f2⟩ := ih (i + 1) a (by omega) (by omega) (by omega)
      refine ⟨L, hL, ?_, ?_⟩
      · refine Ev.step (f := fun k => (spec_LabelBox.f k x y s i).bind fun b => if b.2.2.2.2 = true then (if a.length < 17592186044416 then spec_CornersFor.l0 k s (a ++ [i]) (i + 1) x y else none) else spec_CornersFor.l0 k s a (i + 1) x y) (fun k => ?_) (Ev.bind e1 ?_)
        · simp only [spec_CornersFor.l0]; rw [if_pos (by omega), hw]
        · simp only [if_neg hR]; exact f1
      · refine Ev.step (f := fun k => (impl_LabelBox.f k x y s i).bind fun b => if b.2.2.2.2 = true then (if a.length < 17592186044416 then impl_CornersFor.l0 k s (a ++ [i]) (i + 1) x y else none) else impl_CornersFor.l0 k s a (i + 1) x y) (fun k => ?_) (Ev.bind e2 ?_)
        · simp only [impl_CornersFor.l0]; rw [if_pos (by omega), hw]
        · simp only [if_neg hR]; exact f2
theorem corners_same (x y : Int) (s : ByteArray) (hs : s.size ≤ 9223372036854775807) : ∃ L : List Int, L.length ≤ 4 ∧ Ev (fun k => spec_CornersFor.f k x y s) L ∧ Ev (fun k => impl_CornersFor.f k x y s) L := by
  obtain ⟨L, hL, f1, f2⟩ := corners_l x y s hs 4 0 [] (by omega) (by omega) (by simp)
  exact ⟨L, hL, f1, f2⟩
theorem main : ∀ (a0_0 : Int) (a0_1 : Int) (a1 : ByteArray), (Lit.int .i64 a0_0).wf = true → (Lit.int .i64 a0_1).wf = true → a1.size ≤ 9223372036854775807 → ∃ k, laws_FnExactCornersFor.f k a0_0 a0_1 a1 = some true := by
  intro x y s _ _ hs
  refine Ev.rounds (r := true) ?_
  unfold laws_FnExactCornersFor.f laws_toPoint.f
  by_cases hb : (s.size : Int) > 1048576
  · simp only [if_pos hb]; exact Ev.now _
  · simp only [if_neg hb, Option.bind_some]
    obtain ⟨L, hl, f1, f2⟩ := corners_same x y s hs
    have eq := eqInts L L (by omega)
    have em := markInts L (by omega)
    have eh := heldInts L.length (by omega)
    simp only [decide_true] at eq
    refine Ev.bind f1 (Ev.bind f2 (Ev.bind eq ?_))
    simp only [if_true]
    refine Ev.bind em (Ev.bind eh ?_)
    simp only [if_neg (show ¬ (1 + (L.length : Int) < 0) by omega), if_true]
    refine Ev.bind f2 (Ev.bind eq ?_)
    simp only [if_true]
    refine Ev.bind eh ?_
    simp only [if_neg (show ¬ (1 + (L.length : Int) < 0) by omega), if_true]
    exact Ev.now _
end Go.Proofs.Ytlclpggodhodiaa.Pure.FnExactCornersFor
