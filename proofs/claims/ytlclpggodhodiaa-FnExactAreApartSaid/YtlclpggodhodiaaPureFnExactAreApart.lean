/- Whether labels lie apart: the program looks at each later label, the reference at each earlier one; overlapping is symmetric. No condition. -/
import Derived.Test.YtlclpggodhodiaaPFnExactAreApartx
namespace Go.Proofs.Ytlclpggodhodiaa.Pure.FnExactAreApart
open Go Go.RowKit Go.Proofs.Ytlclpggodhodiaa.PFnExactAreApart Go.Proofs.YtlclpggodhodiaaW.PrintWords Go.Proofs.YtlclpggodhodiaaW.PrintLast Go.Proofs.YtlclpggodhodiaaW.PrintMore
set_option linter.unusedVariables false
set_option linter.unusedSimpArgs false
theorem w1 (i : Nat) (h : i < 9223372036854775807) : wrap64 ((i : Int) + 1) = ((i + 1 : Nat) : Int) := by unfold wrap64; omega
theorem rd_at (l : List Int) (i : Nat) (h : i < l.length) : rd l (i : Int) = l[i] := by
  unfold rd
  rw [Int.toNat_natCast, List.getD_eq_getElem?_getD, List.getElem?_eq_getElem h]
  rfl
def inB (a b c : Int) : Bool := decide (b ≤ a) && decide (a ≤ c)
theorem in_s (a b c : Int) : spec_l1In.f a b c = some (inB a b c) := by
  unfold spec_l1In.f inB
  by_cases h : a ≥ b
  · rw [if_pos h, decide_eq_true (show b ≤ a from h)]; rfl
  · rw [if_neg h, decide_eq_false (show ¬ b ≤ a from h)]; rfl
theorem in_i (a b c : Int) : impl_InRange.f a b c = some (inB a b c) := in_s a b c
def ptB (x y : Int) : Bool := inB x 0 200 && inB y 0 200
theorem pt_s (x y : Int) : spec_IsPoint.f x y = some (ptB x y) := by
  unfold spec_IsPoint.f ptB
  rw [in_s, in_s]
  cases inB x 0 200 <;> rfl
theorem pt_i (x y : Int) : impl_IsPoint.f x y = some (ptB x y) := by
  unfold impl_IsPoint.f ptB
  rw [in_i, in_i]
  cases inB x 0 200 <;> rfl
def boxB (a b c d : Int) : Bool := ptB a b && (ptB c d && (decide (a ≤ c) && decide (b ≤ d)))
theorem box_s (a b c d : Int) : spec_IsBox.f a b c d = some (boxB a b c d) := by
  unfold spec_IsBox.f boxB
  rw [pt_s, pt_s]
  cases ptB a b
  · rfl
  · cases ptB c d
    · rfl
    · by_cases h : a ≤ c
      · simp [h]
      · simp [h]
theorem box_i (a b c d : Int) : impl_IsBox.f a b c d = some (boxB a b c d) := by
  unfold impl_IsBox.f boxB
  rw [pt_i, pt_i]
  cases ptB a b
  · rfl
  · cases ptB c d
    · rfl
    · by_cases h : a ≤ c
      · simp [h]
      · simp [h]
def ovB (a b c d e f g h : Int) : Bool := boxB a b c d && (boxB e f g h && (decide (mx a e < mn c g) && decide (mx b f < mn d h)))
theorem min_s (a b : Int) : spec_Min.f a b = some (mn a b) := by
  unfold spec_Min.f mn
  (repeat' split) <;> first | rfl | (congr 1; omega)
theorem max_s (a b : Int) : spec_Max.f a b = some (mx a b) := by
  unfold spec_Max.f mx
  (repeat' split) <;> first | rfl | (congr 1; omega)
theorem ov_s (a b c d e f g h : Int) : spec_BoxesOverlap.f a b c d e f g h = some (ovB a b c d e f g h) := by
  unfold spec_BoxesOverlap.f ovB
  simp only [box_s, max_s, min_s, Option.bind_some]
  cases boxB a b c d
  · rfl
  · cases boxB e f g h
    · rfl
    · by_cases h1 : mx a e < mn c g
      · simp [h1]
      · simp [h1]
theorem box_bound {a b c d : Int} (h : boxB a b c d = true) : 0 ≤ a ∧ a ≤ 200 ∧ 0 ≤ b ∧ b ≤ 200 ∧ 0 ≤ c ∧ c ≤ 200 ∧ 0 ≤ d ∧ d ≤ 200 := by
  simp only [boxB, ptB, inB, Bool.and_eq_true, decide_eq_true_eq] at h
  omega
theorem mn_bound (a b : Int) (h : 0 ≤ a ∧ a ≤ 200) (h' : 0 ≤ b ∧ b ≤ 200) : 0 ≤ mn a b ∧ mn a b ≤ 200 := by unfold mn; split <;> omega
theorem mx_bound (a b : Int) (h : 0 ≤ a ∧ a ≤ 200) (h' : 0 ≤ b ∧ b ≤ 200) : 0 ≤ mx a b ∧ mx a b ≤ 200 := by unfold mx; split <;> omega
theorem wrap_mid {a : Int} (h : -1000 ≤ a) (h' : a ≤ 1000) : wrap64 a = a := by unfold wrap64; omega
theorem ov_i (a b c d e f g h : Int) : impl_BoxesOverlap.f a b c d e f g h = some (ovB a b c d e f g h) := by
  unfold impl_BoxesOverlap.f impl_common.f ovB
  simp only [box_i, Option.bind_some]
  cases h1 : boxB a b c d
  · rfl
  · cases h2 : boxB e f g h
    · rfl
    · have b1 := box_bound h1
      have b2 := box_bound h2
      have m1 := mn_bound c g (by omega) (by omega)
      have m2 := mx_bound a e (by omega) (by omega)
      have m3 := mn_bound d h (by omega) (by omega)
      have m4 := mx_bound b f (by omega) (by omega)
      rw [wrap_mid (a := mn c g - mx a e) (by omega) (by omega), wrap_mid (a := mn d h - mx b f) (by omega) (by omega)]
      by_cases h3 : mx a e < mn c g
      · simp only [if_true, if_pos (show mn c g - mx a e > 0 by omega), decide_eq_true h3, Bool.true_and]
        rw [decide_eq_decide.2 (show mn d h - mx b f > 0 ↔ mx b f < mn d h by omega)]
      · simp only [if_true, if_neg (show ¬ mn c g - mx a e > 0 by omega), decide_eq_false h3, Bool.true_and, Bool.false_and]
theorem mx_comm (a b : Int) : mx a b = mx b a := by unfold mx; (repeat' split) <;> omega
theorem mn_comm (a b : Int) : mn a b = mn b a := by unfold mn; (repeat' split) <;> omega
theorem ov_comm (a b c d e f g h : Int) : ovB a b c d e f g h = ovB e f g h a b c d := by
  unfold ovB
  rw [mx_comm a e, mx_comm b f, mn_comm c g, mn_comm d h]
  cases boxB a b c d <;> cases boxB e f g h <;> simp
theorem rdl_at (l : List S117) (i : Nat) (h : i < l.length) : rd_T117 l (i : Int) = l[i] := by
  unfold rd_T117
  rw [Int.toNat_natCast, List.getD_eq_getElem?_getD, List.getElem?_eq_getElem h]
  rfl
theorem rdL_at (l : List S119) (i : Nat) (h : i < l.length) : rd_T119 l (i : Int) = l[i] := by
  unfold rd_T119
  rw [Int.toNat_natCast, List.getD_eq_getElem?_getD, List.getElem?_eq_getElem h]
  rfl
def conv (x : S117) : S119 := ⟨x.f0, x.f1, (⟨(⟨x.f2.f0.f0, x.f2.f0.f1⟩ : S33), (⟨x.f2.f1.f0, x.f2.f1.f1⟩ : S33)⟩ : S39)⟩
theorem toLabels_l (l : List S117) (hb : l.length < 9223372036854775807) (d : Nat) : ∀ i : Nat, i + d = l.length → Ev (fun k => laws_toLabelS.l0 k l ((l.map conv).take i ++ List.replicate d z119) (i : Int)) (l.map conv) := by
  induction d with
  | zero =>
    intro i hi
    refine Ev.step (f := fun _ => some (l.map conv)) (fun k => ?_) (Ev.now _)
    simp only [laws_toLabelS.l0]
    rw [if_neg (by omega), List.take_of_length_le (by simp; omega)]
    simp
  | succ d ih =>
    intro i hi
    have h1 : i < l.length := by omega
    refine Ev.step (fun k => ?_) (ih (i + 1) (by omega))
    simp only [laws_toLabelS.l0, laws_toLabel.f, laws_toBox.f, laws_toPoint.f, Option.bind_some]
    rw [if_pos (by omega), if_pos (by omega), if_pos (by simp; omega), rdl_at l i h1, w1 i (by omega)]
    congr 1
    have hm : i < (l.map conv).length := by simpa using h1
    rw [Int.toNat_natCast, List.set_append_right _ _ (by simp; omega), List.take_succ_eq_append_getElem hm, List.replicate_succ]
    simp only [List.length_take, List.length_map, Nat.min_eq_left (show i ≤ l.length by omega), Nat.sub_self, List.set_cons_zero, List.append_assoc, List.singleton_append, List.getElem_map, conv]
theorem toLabels (l : List S117) (hb : l.length ≤ 1048576) : Ev (fun k => laws_toLabelS.f k l) (l.map conv) := by
  unfold laws_toLabelS.f
  simp only [if_pos (show (0 : Int) ≤ (l.length : Int) by omega), Int.toNat_natCast, if_pos (show l.length ≤ 5026338869833 by omega)]
  have := toLabels_l l (by omega) l.length 0 (by omega)
  simpa using this
theorem eqLab (x : S119) : laws_eqLabel.f x.f0 x.f1 x.f2.f0.f0 x.f2.f0.f1 x.f2.f1.f0 x.f2.f1.f1 x.f0 x.f1 x.f2.f0.f0 x.f2.f0.f1 x.f2.f1.f0 x.f2.f1.f1 = some true := by simp [laws_eqLabel.f, laws_eqBox.f, laws_eqPoint.f]
theorem eqLabels_l (l : List S119) (hb : l.length < 9223372036854775807) (d : Nat) : ∀ i : Nat, i + d = l.length → Ev (fun k => laws_eqLabelS.l0 k l l (i : Int)) true := by
  induction d with
  | zero =>
    intro i hi
    refine Ev.step (f := fun _ => some true) (fun k => ?_) (Ev.now _)
    simp only [laws_eqLabelS.l0]
    rw [if_neg (by omega)]
  | succ d ih =>
    intro i hi
    have h1 : i < l.length := by omega
    refine Ev.step (fun k => ?_) (ih (i + 1) (by omega))
    simp only [laws_eqLabelS.l0]
    rw [if_pos (by omega), if_pos (by omega), if_pos (by omega), rdL_at l i h1, eqLab, w1 i (by omega)]
    simp
theorem eqLabels (l : List S119) (hb : l.length < 9223372036854775807) : Ev (fun k => laws_eqLabelS.f k l l) true := by
  unfold laws_eqLabelS.f
  simp only [if_true]
  exact eqLabels_l l hb l.length 0 (by omega)
theorem szLabels_l (l : List S117) (hl : ∀ x ∈ l, x.f1.size ≤ 9223372036854775807) (hb : l.length < 9223372036854775807) (d : Nat) : ∀ (i : Nat) (n : Int), i + d = l.length → 0 ≤ n → n ≤ 1048576 → ∃ r, Ev (fun k => laws_szLabelS.l0 k l n (i : Int)) r := by
  induction d with
  | zero =>
    intro i n hi h0 h1
    refine ⟨n, Ev.step (f := fun _ => some n) (fun k => ?_) (Ev.now _)⟩
    simp only [laws_szLabelS.l0]
    rw [if_neg (by omega)]
  | succ d ih =>
    intro i n hi h0 h1
    have hl1 : i < l.length := by omega
    have hx := hl _ (List.getElem_mem hl1)
    have hw : wrap64 (n - (l[i].f1.size : Int)) = n - (l[i].f1.size : Int) := by unfold wrap64; omega
    by_cases hc : n - (l[i].f1.size : Int) < 0
    · refine ⟨-1, Ev.step (f := fun _ => some (-1)) (fun k => ?_) (Ev.now _)⟩
      simp only [laws_szLabelS.l0, laws_szLabel.f]
      rw [if_pos (by omega), if_pos (by omega), rdl_at l i hl1, hw, if_pos hc]
      rfl
    · obtain ⟨r, hr⟩ := ih (i + 1) (n - (l[i].f1.size : Int)) (by omega) (by omega) (by omega)
      refine ⟨r, Ev.step (fun k => ?_) hr⟩
      simp only [laws_szLabelS.l0, laws_szLabel.f]
      rw [if_pos (by omega), if_pos (by omega), rdl_at l i hl1, hw, if_neg hc]
      simp only [Option.bind_some]
      rw [if_neg hc, w1 i (by omega)]
theorem szLabels (l : List S117) (hl : ∀ x ∈ l, x.f1.size ≤ 9223372036854775807) (hb : l.length ≤ 9223372036854775807) : ∃ r, Ev (fun k => laws_szLabelS.f k l 1048576) r ∧ (¬ r < 0 → l.length ≤ 1048576) := by
  unfold laws_szLabelS.f
  have hw : wrap64 (1048576 - (l.length : Int)) = 1048576 - (l.length : Int) := by unfold wrap64; omega
  rw [hw]
  by_cases hc : 1048576 - (l.length : Int) < 0
  · exact ⟨-1, by simp only [if_pos hc]; exact Ev.now _, fun h => by omega⟩
  · simp only [if_neg hc]
    obtain ⟨r, hr⟩ := szLabels_l l hl (by omega) l.length 0 (1048576 - (l.length : Int)) (by omega) (by omega) (by omega)
    exact ⟨r, hr, fun _ => by omega⟩
def ovL (x y : S119) : Bool := ovB x.f2.f0.f0 x.f2.f0.f1 x.f2.f1.f0 x.f2.f1.f1 y.f2.f0.f0 y.f2.f0.f1 y.f2.f1.f0 y.f2.f1.f1
theorem ovL_comm (x y : S119) : ovL x y = ovL y x := ov_comm _ _ _ _ _ _ _ _
theorem apart_s (l : List S119) (hb : l.length ≤ 1048576) (d : Nat) : ∀ i : Nat, i + d = l.length → ∃ v : Bool, Ev (fun k => spec_AreApart.l0 k l (i : Int)) v ∧ (v = true ↔ ∀ p (hp : p < l.length), i ≤ p → ∀ q (hq : q < l.length), q < p → ovL l[p] l[q] = false) := by
  induction d with
  | zero =>
    intro i hi
    refine ⟨true, Ev.step (f := fun _ => some true) (fun k => ?_) (Ev.now _), by simp; intro p hp; omega⟩
    simp only [spec_AreApart.l0]
    rw [if_neg (by omega)]
  | succ d ih =>
    intro i hi
    have hi' : i < l.length := by omega
    obtain ⟨v, e1, e2⟩ := ih (i + 1) (by omega)
    have inner : ∀ d' j : Nat, j + d' = i → ∃ v : Bool, Ev (fun k => spec_AreApart.l1 k l (i : Int) (j : Int)) v ∧ (v = true ↔ (∀ q (hq : q < l.length), j ≤ q → q < i → ovL l[i] l[q] = false) ∧ ∀ p (hp : p < l.length), i + 1 ≤ p → ∀ q (hq : q < l.length), q < p → ovL l[p] l[q] = false) := by
      intro d'
      induction d' with
      | zero =>
        intro j hj
        refine ⟨v, Ev.step (fun k => ?_) e1, e2.trans ⟨fun h => ⟨fun q _ h1 h2 => by omega, h⟩, fun h => h.2⟩⟩
        simp only [spec_AreApart.l1]
        rw [if_neg (by omega), w1 i (by omega)]
      | succ d' ih' =>
        intro j hj
        have hj' : j < l.length := by omega
        obtain ⟨u, f1, f2⟩ := ih' (j + 1) (by omega)
        by_cases hv : ovL l[i] l[j] = true
        · refine ⟨false, Ev.step (f := fun _ => some false) (fun k => ?_) (Ev.now _), ?_⟩
          · simp only [spec_AreApart.l1, ov_s]
            rw [if_pos (by omega), if_pos (by omega), if_pos (by omega), if_pos (by omega), if_pos (by omega), rdL_at l i hi', rdL_at l j hj']
            show (if ovL l[i] l[j] = true then some false else _) = _
            rw [if_pos hv]
          · constructor
            · intro h; cases h
            · intro h; have := h.1 j hj' (Nat.le_refl _) (by omega); rw [hv] at this; cases this
        · refine ⟨u, Ev.step (fun k => ?_) f1, f2.trans ?_⟩
          · simp only [spec_AreApart.l1, ov_s]
            rw [if_pos (by omega), if_pos (by omega), if_pos (by omega), if_pos (by omega), if_pos (by omega), rdL_at l i hi', rdL_at l j hj', w1 j (by omega)]
            show (if ovL l[i] l[j] = true then some false else _) = _
            rw [if_neg hv]
          · refine ⟨fun h => ⟨fun q hq h1 h2 => ?_, h.2⟩, fun h => ⟨fun q hq h1 h2 => h.1 q hq (by omega) h2, h.2⟩⟩
            by_cases hjq : q = j
            · subst hjq; simpa using hv
            · exact h.1 q hq (by omega) h2
    obtain ⟨u, f1, f2⟩ := inner i 0 (by omega)
    refine ⟨u, Ev.step (fun k => ?_) f1, f2.trans ?_⟩
    · simp only [spec_AreApart.l0]
      rw [if_pos (by omega)]
      rfl
    · constructor
      · rintro ⟨g1, g2⟩ p hp hip
        by_cases hpi : p = i
        · subst hpi
          exact fun q hq hqp => g1 q hq (by omega) hqp
        · exact g2 p hp (by omega)
      · intro g
        exact ⟨fun q hq _ hqi => g i hi' (Nat.le_refl _) q hq hqi, fun p hp hip => g p hp (by omega)⟩
theorem apart_i (l : List S119) (hb : l.length ≤ 1048576) (d : Nat) : ∀ i : Nat, i + d = l.length → ∃ v : Bool, Ev (fun k => impl_AreApart.l0 k l l (l.length : Int) (i : Int)) v ∧ (v = true ↔ ∀ p (hp : p < l.length), i ≤ p → ∀ q (hq : q < l.length), p < q → ovL l[p] l[q] = false) := by
  induction d with
  | zero =>
    intro i hi
    refine ⟨true, Ev.step (f := fun _ => some true) (fun k => ?_) (Ev.now _), by simp; intro p hp; omega⟩
    simp only [impl_AreApart.l0]
    rw [if_neg (by omega)]
  | succ d ih =>
    intro i hi
    have hi' : i < l.length := by omega
    obtain ⟨v, e1, e2⟩ := ih (i + 1) (by omega)
    have hdl : (l.drop (i + 1)).length = l.length - (i + 1) := List.length_drop
    have inner : ∀ d' j : Nat, j + d' = (l.drop (i + 1)).length → ∃ v : Bool, Ev (fun k => impl_AreApart.l1 k l l (l.length : Int) (i : Int) (l.drop (i + 1)) ((l.drop (i + 1)).length : Int) (j : Int) l[i].f0 l[i].f1 l[i].f2.f0.f0 l[i].f2.f0.f1 l[i].f2.f1.f0 l[i].f2.f1.f1) v ∧ (v = true ↔ (∀ q (hq : q < l.length), i + 1 + j ≤ q → ovL l[i] l[q] = false) ∧ ∀ p (hp : p < l.length), i + 1 ≤ p → ∀ q (hq : q < l.length), p < q → ovL l[p] l[q] = false) := by
      intro d'
      induction d' with
      | zero =>
        intro j hj
        refine ⟨v, Ev.step (fun k => ?_) e1, e2.trans ⟨fun h => ⟨fun q _ h1 => by omega, h⟩, fun h => h.2⟩⟩
        simp only [impl_AreApart.l1]
        rw [if_neg (by omega), w1 i (by omega)]
      | succ d' ih' =>
        intro j hj
        have hj' : j < (l.drop (i + 1)).length := by omega
        have hj2 : i + 1 + j < l.length := by omega
        have hg : (l.drop (i + 1))[j] = l[i + 1 + j] := List.getElem_drop
        obtain ⟨u, f1, f2⟩ := ih' (j + 1) (by omega)
        by_cases hv : ovL l[i] l[i + 1 + j] = true
        · refine ⟨false, Ev.step (f := fun _ => some false) (fun k => ?_) (Ev.now _), ?_⟩
          · simp only [impl_AreApart.l1, ov_i]
            rw [if_pos (by omega), if_pos (by omega), if_pos (by omega), rdL_at _ j hj', hg]
            show (if ovL l[i] l[i + 1 + j] = true then some false else _) = _
            rw [if_pos hv]
          · constructor
            · intro h; cases h
            · intro h; have := h.1 (i + 1 + j) hj2 (Nat.le_refl _); rw [hv] at this; cases this
        · refine ⟨u, Ev.step (fun k => ?_) f1, f2.trans ?_⟩
          · simp only [impl_AreApart.l1, ov_i]
            rw [if_pos (by omega), if_pos (by omega), if_pos (by omega), rdL_at _ j hj', hg, w1 j (by omega)]
            show (if ovL l[i] l[i + 1 + j] = true then some false else _) = _
            rw [if_neg hv]
          · refine ⟨fun h => ⟨fun q hq h1 => ?_, h.2⟩, fun h => ⟨fun q hq h1 => h.1 q hq (by omega), h.2⟩⟩
            by_cases hjq : q = i + 1 + j
            · subst hjq; simpa using hv
            · exact h.1 q hq (by omega)
    obtain ⟨u, f1, f2⟩ := inner _ 0 (Nat.zero_add _)
    refine ⟨u, Ev.step (fun k => ?_) f1, f2.trans ?_⟩
    · simp only [impl_AreApart.l0]
      rw [if_pos (by omega), if_pos (by omega), if_pos (by omega), w1 i (by omega), if_pos (by omega), if_pos (by omega), rdL_at l i hi', Int.toNat_natCast]
      rfl
    · constructor
      · rintro ⟨g1, g2⟩ p hp hip
        by_cases hpi : p = i
        · subst hpi
          exact fun q hq hqp => g1 q hq (by omega)
        · exact g2 p hp (by omega)
      · intro g
        exact ⟨fun q hq hqi => g i hi' (Nat.le_refl _) q hq (by omega), fun p hp hip => g p hp (by omega)⟩
theorem main : ∀ (l0 : List (S117)), (l0.length ≤ 9223372036854775807 ∧ ∀ x ∈ l0, ((Lit.int .i64 x.f0).wf = true ∧ x.f1.size ≤ 9223372036854775807 ∧ (((Lit.int .i64 x.f2.f0.f0).wf = true ∧ (Lit.int .i64 x.f2.f0.f1).wf = true) ∧ ((Lit.int .i64 x.f2.f1.f0).wf = true ∧ (Lit.int .i64 x.f2.f1.f1).wf = true)))) → ∃ k, laws_FnExactAreApart.f k l0 = some true := by
  intro l hl
  refine Ev.rounds (r := true) ?_
  unfold laws_FnExactAreApart.f
  obtain ⟨r, hr, hlen⟩ := szLabels l (fun x hx => (hl.2 x hx).2.1) hl.1
  refine Ev.bind hr ?_
  by_cases hc : r < 0
  · simp only [if_pos hc]; exact Ev.now _
  · simp only [if_neg hc]
    have hb := hlen hc
    have ht := toLabels l hb
    have hm : (l.map conv).length ≤ 1048576 := by simpa using hb
    generalize l.map conv = L at ht hm
    obtain ⟨v, e1, g1⟩ := apart_s L hm L.length 0 (by omega)
    obtain ⟨u, e2, g2⟩ := apart_i L hm L.length 0 (by omega)
    have huv : u = v := by
      rw [Bool.eq_iff_iff, g1, g2]
      exact ⟨fun h p hp _ q hq hqp => by rw [ovL_comm]; exact h q hq (Nat.zero_le _) p hp hqp, fun h p hp _ q hq hpq => by rw [ovL_comm]; exact h q hq (Nat.zero_le _) p hp hpq⟩
    subst huv
    refine Ev.bind ht (Ev.bind (show Ev (fun k => spec_AreApart.f k L) u from e1) (Ev.bind ht (Ev.bind (show Ev (fun k => impl_AreApart.f k L) u from e2) ?_)))
    simp only [bne_self_eq_false, Bool.false_eq_true, if_false]
    refine Ev.bind ht (Ev.bind (eqLabels L (by omega)) ?_)
    simp only [if_true]
    exact Ev.now _
end Go.Proofs.Ytlclpggodhodiaa.Pure.FnExactAreApart
