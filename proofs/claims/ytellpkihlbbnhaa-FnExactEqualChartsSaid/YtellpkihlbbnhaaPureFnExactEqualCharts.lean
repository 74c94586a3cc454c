/- Whether two charts are equal: the program and the reference answer the same: the features one by one, the labels one by one. No condition. -/
import Derived.Test.YtellpkihlbbnhaaPFnExactEqualChartsx
namespace Go.Proofs.Ytellpkihlbbnhaa.Pure.FnExactEqualCharts
open Go Go.RowKit Go.Proofs.Ytellpkihlbbnhaa.PFnExactEqualCharts Go.Proofs.YtellpkihlbbnhaaW.PrintWords Go.Proofs.YtellpkihlbbnhaaW.PrintLast Go.Proofs.YtellpkihlbbnhaaW.PrintMore Go.Proofs.YtellpkihlbbnhaaGeo
set_option linter.unusedVariables false
set_option linter.unusedSimpArgs false
theorem w1 (i : Nat) (h : i < 9223372036854775807) : wrap64 ((i : Int) + 1) = ((i + 1 : Nat) : Int) := by unfold wrap64; omega
theorem rd_at (l : List Int) (i : Nat) (h : i < l.length) : rd l (i : Int) = l[i] := by
  unfold rd
  rw [Int.toNat_natCast, List.getD_eq_getElem?_getD, List.getElem?_eq_getElem h]
  rfl
theorem rdl_at (l : List S55) (i : Nat) (h : i < l.length) : rd_T55 l (i : Int) = l[i] := by
  unfold rd_T55
  rw [Int.toNat_natCast, List.getD_eq_getElem?_getD, List.getElem?_eq_getElem h]
  rfl
theorem rdL_at (l : List S42) (i : Nat) (h : i < l.length) : rd_T42 l (i : Int) = l[i] := by
  unfold rd_T42
  rw [Int.toNat_natCast, List.getD_eq_getElem?_getD, List.getElem?_eq_getElem h]
  rfl
def conv (x : S55) : S42 := ⟨x.f0, x.f1, (⟨(⟨x.f2.f0.f0, x.f2.f0.f1⟩ : S38), (⟨x.f2.f1.f0, x.f2.f1.f1⟩ : S38)⟩ : S40)⟩
theorem toLabels_l (l : List S55) (hb : l.length < 9223372036854775807) (d : Nat) : ∀ i : Nat, i + d = l.length → Ev (fun k => laws_toLabelS.l0 k l ((l.map conv).take i ++ List.replicate d z42) (i : Int)) (l.map conv) := by
  induction d with
  | zero =>
    intro i hi
    refine Ev.step (f := fun _ => some (l.map conv)) (fun k => ?_) (Ev.now _)
    simp only [laws_toLabelS.l0]
    rw [if_neg (by omega), List.take_of_length_le (by simp; omega)]
    simp
  | succ d ih =>
    intro i hi
    have h1 : i < l.length := by omega
    refine Ev.step (fun k => ?_) (ih (i + 1) (by omega))
    simp only [laws_toLabelS.l0, laws_toLabel.f, laws_toBox.f, laws_toPoint.f, Option.bind_some]
    rw [if_pos (by omega), if_pos (by omega), if_pos (by simp; omega), rdl_at l i h1, w1 i (by omega)]
    congr 1
    have hm : i < (l.map conv).length := by simpa using h1
    rw [Int.toNat_natCast, List.set_append_right _ _ (by simp; omega), List.take_succ_eq_append_getElem hm, List.replicate_succ]
    simp only [List.length_take, List.length_map, Nat.min_eq_left (show i ≤ l.length by omega), Nat.sub_self, List.set_cons_zero, List.append_assoc, List.singleton_append, List.getElem_map, conv]
theorem toLabels (l : List S55) (hb : l.length ≤ 1048576) : Ev (fun k => laws_toLabelS.f k l) (l.map conv) := by
  unfold laws_toLabelS.f
  simp only [if_pos (show (0 : Int) ≤ (l.length : Int) by omega), Int.toNat_natCast, if_pos (show l.length ≤ 5026338869833 by omega)]
  have := toLabels_l l (by omega) l.length 0 (by omega)
  simpa using this
theorem eqLab (x : S42) : laws_eqLabel.f x.f0 x.f1 x.f2.f0.f0 x.f2.f0.f1 x.f2.f1.f0 x.f2.f1.f1 x.f0 x.f1 x.f2.f0.f0 x.f2.f0.f1 x.f2.f1.f0 x.f2.f1.f1 = some true := by simp [laws_eqLabel.f, laws_eqBox.f, laws_eqPoint.f]
theorem eqLabels_l (l : List S42) (hb : l.length < 9223372036854775807) (d : Nat) : ∀ i : Nat, i + d = l.length → Ev (fun k => laws_eqLabelS.l0 k l l (i : Int)) true := by
  induction d with
  | zero =>
    intro i hi
    refine Ev.step (f := fun _ => some true) (fun k => ?_) (Ev.now _)
    simp only [laws_eqLabelS.l0]
    rw [if_neg (by omega)]
  | succ d ih =>
    intro i hi
    have h1 : i < l.length := by omega
    refine Ev.step (fun k => ?_) (ih (i + 1) (by omega))
    simp only [laws_eqLabelS.l0]
    rw [if_pos (by omega), if_pos (by omega), if_pos (by omega), rdL_at l i h1, eqLab, w1 i (by omega)]
    simp
theorem eqLabels (l : List S42) (hb : l.length < 9223372036854775807) : Ev (fun k => laws_eqLabelS.f k l l) true := by
  unfold laws_eqLabelS.f
  simp only [if_true]
  exact eqLabels_l l hb l.length 0 (by omega)
theorem szLabels_l (l : List S55) (hl : ∀ x ∈ l, x.f1.size ≤ 9223372036854775807) (hb : l.length < 9223372036854775807) (d : Nat) : ∀ (i : Nat) (n : Int), i + d = l.length → 0 ≤ n → n ≤ 1048576 → ∃ r, Ev (fun k => laws_szLabelS.l0 k l n (i : Int)) r := by
  induction d with
  | zero =>
    intro i n hi h0 h1
    refine ⟨n, Ev.step (f := fun _ => some n) (fun k => ?_) (Ev.now _)⟩
    simp only [laws_szLabelS.l0]
    rw [if_neg (by omega)]
  | succ d ih =>
    intro i n hi h0 h1
    have hl1 : i < l.length := by omega
    have hx := hl _ (List.getElem_mem hl1)
    have hw : wrap64 (n - (l[i].f1.size : Int)) = n - (l[i].f1.size : Int) := by unfold wrap64; omega
    by_cases hc : n - (l[i].f1.size : Int) < 0
    · refine ⟨-1, Ev.step (f := fun _ => some (-1)) (fun k => ?_) (Ev.now _)⟩
      simp only [laws_szLabelS.l0, laws_szLabel.f]
      rw [if_pos (by omega), if_pos (by omega), rdl_at l i hl1, hw, if_pos hc]
      rfl
    · obtain ⟨r, hr⟩ := ih (i + 1) (n - (l[i].f1.size : Int)) (by omega) (by omega) (by omega)
      refine ⟨r, Ev.step (fun k => ?_) hr⟩
      simp only [laws_szLabelS.l0, laws_szLabel.f]
      rw [if_pos (by omega), if_pos (by omega), rdl_at l i hl1, hw, if_neg hc]
      simp only [Option.bind_some]
      rw [if_neg hc, w1 i (by omega)]
theorem szLabels (l : List S55) (hl : ∀ x ∈ l, x.f1.size ≤ 9223372036854775807) (hb : l.length ≤ 9223372036854775807) : ∃ r, Ev (fun k => laws_szLabelS.f k l 1048576) r ∧ (¬ r < 0 → l.length ≤ 1048576) := by
  unfold laws_szLabelS.f
  have hw : wrap64 (1048576 - (l.length : Int)) = 1048576 - (l.length : Int) := by unfold wrap64; omega
  rw [hw]
  by_cases hc : 1048576 - (l.length : Int) < 0
  · exact ⟨-1, by simp only [if_pos hc]; exact Ev.now _, fun h => by omega⟩
  · simp only [if_neg hc]
    obtain ⟨r, hr⟩ := szLabels_l l hl (by omega) l.length 0 (1048576 - (l.length : Int)) (by omega) (by omega) (by omega)
    exact ⟨r, hr, fun _ => by omega⟩
theorem szLabelsB_l (l : List S55) (hl : ∀ x ∈ l, x.f1.size ≤ 9223372036854775807) (hb : l.length < 9223372036854775807) (d : Nat) : ∀ (i : Nat) (n : Int), i + d = l.length → 0 ≤ n → n ≤ 1048576 → ∃ r, r ≤ 1048576 ∧ Ev (fun k => laws_szLabelS.l0 k l n (i : Int)) r := by
  induction d with
  | zero =>
    intro i n hi h0 h1
    refine ⟨n, h1, Ev.step (f := fun _ => some n) (fun k => ?_) (Ev.now _)⟩
    simp only [laws_szLabelS.l0]
    rw [if_neg (by omega)]
  | succ d ih =>
    intro i n hi h0 h1
    have hl1 : i < l.length := by omega
    have hx := hl _ (List.getElem_mem hl1)
    have hw : wrap64 (n - (l[i].f1.size : Int)) = n - (l[i].f1.size : Int) := by unfold wrap64; omega
    by_cases hc : n - (l[i].f1.size : Int) < 0
    · refine ⟨-1, by omega, Ev.step (f := fun _ => some (-1)) (fun k => ?_) (Ev.now _)⟩
      simp only [laws_szLabelS.l0, laws_szLabel.f]
      rw [if_pos (by omega), if_pos (by omega), rdl_at l i hl1, hw, if_pos hc]
      rfl
    · obtain ⟨r, hr0, hr⟩ := ih (i + 1) (n - (l[i].f1.size : Int)) (by omega) (by omega) (by omega)
      refine ⟨r, hr0, Ev.step (fun k => ?_) hr⟩
      simp only [laws_szLabelS.l0, laws_szLabel.f]
      rw [if_pos (by omega), if_pos (by omega), rdl_at l i hl1, hw, if_neg hc]
      simp only [Option.bind_some]
      rw [if_neg hc, w1 i (by omega)]
theorem rdp_at (l : List S51) (i : Nat) (h : i < l.length) : rd_T51 l (i : Int) = l[i] := by
  unfold rd_T51
  rw [Int.toNat_natCast, List.getD_eq_getElem?_getD, List.getElem?_eq_getElem h]
  rfl
theorem rdP_at (l : List S38) (i : Nat) (h : i < l.length) : rd_T38 l (i : Int) = l[i] := by
  unfold rd_T38
  rw [Int.toNat_natCast, List.getD_eq_getElem?_getD, List.getElem?_eq_getElem h]
  rfl
def convP (x : S51) : S38 := ⟨x.f0, x.f1⟩
theorem toPoints_l (l : List S51) (hb : l.length < 9223372036854775807) (d : Nat) : ∀ i : Nat, i + d = l.length → Ev (fun k => laws_toPointS.l0 k l ((l.map convP).take i ++ List.replicate d z38) (i : Int)) (l.map convP) := by
  induction d with
  | zero =>
    intro i hi
    refine Ev.step (f := fun _ => some (l.map convP)) (fun k => ?_) (Ev.now _)
    simp only [laws_toPointS.l0]
    rw [if_neg (by omega), List.take_of_length_le (by simp; omega)]
    simp
  | succ d ih =>
    intro i hi
    have h1 : i < l.length := by omega
    refine Ev.step (fun k => ?_) (ih (i + 1) (by omega))
    simp only [laws_toPointS.l0, laws_toPoint.f, Option.bind_some]
    rw [if_pos (by omega), if_pos (by omega), if_pos (by simp; omega), rdp_at l i h1, w1 i (by omega)]
    congr 1
    have hm : i < (l.map convP).length := by simpa using h1
    rw [Int.toNat_natCast, List.set_append_right _ _ (by simp; omega), List.take_succ_eq_append_getElem hm, List.replicate_succ]
    simp only [List.length_take, List.length_map, Nat.min_eq_left (show i ≤ l.length by omega), Nat.sub_self, List.set_cons_zero, List.append_assoc, List.singleton_append, List.getElem_map, convP]
theorem toPoints (l : List S51) (hb : l.length ≤ 1048576) : Ev (fun k => laws_toPointS.f k l) (l.map convP) := by
  unfold laws_toPointS.f
  simp only [if_pos (show (0 : Int) ≤ (l.length : Int) by omega), Int.toNat_natCast, if_pos (show l.length ≤ 17592186044416 by omega)]
  have := toPoints_l l (by omega) l.length 0 (by omega)
  simpa using this
theorem eqPoints_l (l : List S38) (hb : l.length < 9223372036854775807) (d : Nat) : ∀ i : Nat, i + d = l.length → Ev (fun k => laws_eqPointS.l0 k l l (i : Int)) true := by
  induction d with
  | zero =>
    intro i hi
    refine Ev.step (f := fun _ => some true) (fun k => ?_) (Ev.now _)
    simp only [laws_eqPointS.l0]
    rw [if_neg (by omega)]
  | succ d ih =>
    intro i hi
    have h1 : i < l.length := by omega
    refine Ev.step (fun k => ?_) (ih (i + 1) (by omega))
    simp only [laws_eqPointS.l0, laws_eqPoint.f]
    rw [if_pos (by omega), if_pos (by omega), if_pos (by omega), w1 i (by omega)]
    simp
theorem eqPoints (l : List S38) (hb : l.length < 9223372036854775807) : Ev (fun k => laws_eqPointS.f k l l) true := by
  unfold laws_eqPointS.f
  simp only [if_true]
  exact eqPoints_l l hb l.length 0 (by omega)
theorem toFeature1 (a b c : Int) (s : ByteArray) (l : List S51) (hl : l.length ≤ 1048576) : Ev (fun k => laws_toFeature.f k a b c s l) (a, b, c, s, l.map convP) := by
  unfold laws_toFeature.f
  exact Ev.bind (toPoints l hl) (Ev.now _)
theorem eqFeature1 (a b c : Int) (s : ByteArray) (l : List S38) (hl : l.length < 9223372036854775807) : Ev (fun k => laws_eqFeature.f k a b c s l a b c s l) true := by
  unfold laws_eqFeature.f
  simp only [if_true]
  refine Ev.bind (eqPoints l hl) ?_
  simp only [if_true]
  exact Ev.now _
theorem szFeature1 (a b c : Int) (s : ByteArray) (hs : s.size ≤ 9223372036854775807) (l : List S51) (hl : l.length ≤ 9223372036854775807) (n : Int) (h0 : 0 ≤ n) (h1 : n ≤ 1048576) : ∃ r, laws_szFeature.f a b c s l n = some r ∧ (¬ r < 0 → l.length ≤ 1048576 ∧ s.size ≤ 1048576 ∧ 0 ≤ r ∧ r ≤ 1048576) := by
  unfold laws_szFeature.f laws_szPointS.f
  have w : wrap64 (n - (s.size : Int)) = n - (s.size : Int) := by unfold wrap64; omega
  rw [w]
  by_cases hc : n - (s.size : Int) < 0
  · rw [if_pos hc]; exact ⟨_, rfl, fun h => by omega⟩
  · have w2 : wrap64 (n - (s.size : Int) - (l.length : Int)) = n - (s.size : Int) - (l.length : Int) := by unfold wrap64; omega
    rw [if_neg hc, w2]
    by_cases hc2 : n - (s.size : Int) - (l.length : Int) < 0
    · rw [if_pos hc2]; exact ⟨-1, rfl, fun h => by omega⟩
    · rw [if_neg hc2]; exact ⟨n - (s.size : Int) - (l.length : Int), by simp only [Option.bind_some]; rw [if_neg hc2], fun h => by omega⟩
theorem rdf_at (l : List S49) (i : Nat) (h : i < l.length) : rd_T49 l (i : Int) = l[i] := by
  unfold rd_T49
  rw [Int.toNat_natCast, List.getD_eq_getElem?_getD, List.getElem?_eq_getElem h]
  rfl
theorem rdF_at (l : List S59) (i : Nat) (h : i < l.length) : rd_T59 l (i : Int) = l[i] := by
  unfold rd_T59
  rw [Int.toNat_natCast, List.getD_eq_getElem?_getD, List.getElem?_eq_getElem h]
  rfl
def convF (x : S49) : S59 := ⟨x.f0, x.f1, x.f2, x.f3, x.f4.map convP⟩
theorem toFeatures_l (l : List S49) (hb : l.length < 9223372036854775807) (hp : ∀ x ∈ l, x.f4.length ≤ 1048576) (d : Nat) : ∀ i : Nat, i + d = l.length → Ev (fun k => laws_toFeatureS.l0 k l ((l.map convF).take i ++ List.replicate d z59) (i : Int)) (l.map convF) := by
  induction d with
  | zero =>
    intro i hi
    refine Ev.step (f := fun _ => some (l.map convF)) (fun k => ?_) (Ev.now _)
    simp only [laws_toFeatureS.l0]
    rw [if_neg (by omega), List.take_of_length_le (by simp; omega)]
    simp
  | succ d ih =>
    intro i hi
    have h1 : i < l.length := by omega
    have ht := toPoints l[i].f4 (hp _ (List.getElem_mem h1))
    have hf : Ev (fun k => laws_toFeature.f k l[i].f0 l[i].f1 l[i].f2 l[i].f3 l[i].f4) (l[i].f0, l[i].f1, l[i].f2, l[i].f3, l[i].f4.map convP) := by
      unfold laws_toFeature.f
      exact Ev.bind ht (Ev.now _)
    refine Ev.step (f := fun k => (laws_toFeature.f k l[i].f0 l[i].f1 l[i].f2 l[i].f3 l[i].f4).bind fun b => laws_toFeatureS.l0 k l (((l.map convF).take i ++ List.replicate (d + 1) z59).set i (⟨b.1, b.2.1, b.2.2.1, b.2.2.2.1, b.2.2.2.2⟩ : S59)) ((i + 1 : Nat) : Int)) (fun k => ?_) (Ev.bind hf ?_)
    · simp only [laws_toFeatureS.l0]
      have hlen : (i : Int) < (((l.map convF).take i ++ List.replicate (d + 1) z59).length : Int) := by simp; omega
      rw [if_pos (by omega), if_pos (by omega), rdf_at l i h1, w1 i (by omega), Int.toNat_natCast]
      simp only [if_pos hlen]
    · have hm : i < (l.map convF).length := by simpa using h1
      have e : ((l.map convF).take i ++ List.replicate (d + 1) z59).set i (⟨l[i].f0, l[i].f1, l[i].f2, l[i].f3, l[i].f4.map convP⟩ : S59) = (l.map convF).take (i + 1) ++ List.replicate d z59 := by
        rw [List.set_append_right _ _ (by simp; omega), List.take_succ_eq_append_getElem hm, List.replicate_succ]
        simp only [List.length_take, List.length_map, Nat.min_eq_left (show i ≤ l.length by omega), Nat.sub_self, List.set_cons_zero, List.append_assoc, List.singleton_append, List.getElem_map, convF]
      simp only [e]
      exact ih (i + 1) (by omega)
theorem toFeatures (l : List S49) (hb : l.length ≤ 1048576) (hp : ∀ x ∈ l, x.f4.length ≤ 1048576) : Ev (fun k => laws_toFeatureS.f k l) (l.map convF) := by
  unfold laws_toFeatureS.f
  simp only [if_pos (show (0 : Int) ≤ (l.length : Int) by omega), Int.toNat_natCast, if_pos (show l.length ≤ 4398046511104 by omega)]
  have := toFeatures_l l (by omega) hp l.length 0 (by omega)
  simpa using this
theorem eqFeatures_l (l : List S59) (hb : l.length < 9223372036854775807) (hp : ∀ x ∈ l, x.f4.length < 9223372036854775807) (d : Nat) : ∀ i : Nat, i + d = l.length → Ev (fun k => laws_eqFeatureS.l0 k l l (i : Int)) true := by
  induction d with
  | zero =>
    intro i hi
    refine Ev.step (f := fun _ => some true) (fun k => ?_) (Ev.now _)
    simp only [laws_eqFeatureS.l0]
    rw [if_neg (by omega)]
  | succ d ih =>
    intro i hi
    have h1 : i < l.length := by omega
    have hf : Ev (fun k => laws_eqFeature.f k l[i].f0 l[i].f1 l[i].f2 l[i].f3 l[i].f4 l[i].f0 l[i].f1 l[i].f2 l[i].f3 l[i].f4) true := by
      unfold laws_eqFeature.f
      simp only [if_true]
      refine Ev.bind (eqPoints l[i].f4 (hp _ (List.getElem_mem h1))) ?_
      simp only [if_true]
      exact Ev.now _
    refine Ev.step (f := fun k => (laws_eqFeature.f k l[i].f0 l[i].f1 l[i].f2 l[i].f3 l[i].f4 l[i].f0 l[i].f1 l[i].f2 l[i].f3 l[i].f4).bind fun t => if t = true then laws_eqFeatureS.l0 k l l ((i + 1 : Nat) : Int) else some false) (fun k => ?_) (Ev.bind hf ?_)
    · simp only [laws_eqFeatureS.l0]
      rw [if_pos (by omega), if_pos (by omega), if_pos (by omega), rdF_at l i h1, w1 i (by omega)]
    · simp only [if_true]
      exact ih (i + 1) (by omega)
theorem eqFeatures (l : List S59) (hb : l.length < 9223372036854775807) (hp : ∀ x ∈ l, x.f4.length < 9223372036854775807) : Ev (fun k => laws_eqFeatureS.f k l l) true := by
  unfold laws_eqFeatureS.f
  simp only [if_true]
  exact eqFeatures_l l hb hp l.length 0 (by omega)
theorem szFeatures_l (l : List S49) (hl : ∀ x ∈ l, x.f3.size ≤ 9223372036854775807 ∧ x.f4.length ≤ 9223372036854775807) (hb : l.length < 9223372036854775807) (d : Nat) :
    ∀ (i : Nat) (n : Int), i + d = l.length → 0 ≤ n → n ≤ 1048576 → ∃ r, Ev (fun k => laws_szFeatureS.l0 k l n (i : Int)) r ∧ (¬ r < 0 → ∀ x ∈ l.drop i, x.f3.size ≤ 1048576 ∧ x.f4.length ≤ 1048576) := by
  induction d with
  | zero =>
    intro i n hi h0 h1
    have e : l.drop i = [] := List.drop_of_length_le (by omega)
    rw [e]
    refine ⟨n, Ev.step (f := fun _ => some n) (fun k => ?_) (Ev.now _), fun _ x hx => by simp at hx⟩
    simp only [laws_szFeatureS.l0]
    rw [if_neg (by omega)]
  | succ d ih =>
    intro i n hi h0 h1
    have hl1 : i < l.length := by omega
    obtain ⟨hx1, hx2⟩ := hl _ (List.getElem_mem hl1)
    have e := List.drop_eq_getElem_cons hl1
    rw [e]
    have hw : wrap64 (n - (l[i].f3.size : Int)) = n - (l[i].f3.size : Int) := by unfold wrap64; omega
    by_cases hc : n - (l[i].f3.size : Int) < 0
    · refine ⟨-1, Ev.step (f := fun _ => some (-1)) (fun k => ?_) (Ev.now _), fun h => by omega⟩
      simp only [laws_szFeatureS.l0, laws_szFeature.f]
      rw [if_pos (by omega), if_pos (by omega), rdf_at l i hl1, hw, if_pos hc]
      rfl
    · have hw2 : wrap64 (n - (l[i].f3.size : Int) - (l[i].f4.length : Int)) = n - (l[i].f3.size : Int) - (l[i].f4.length : Int) := by unfold wrap64; omega
      by_cases hc2 : n - (l[i].f3.size : Int) - (l[i].f4.length : Int) < 0
      · refine ⟨-1, Ev.step (f := fun _ => some (-1)) (fun k => ?_) (Ev.now _), fun h => by omega⟩
        simp only [laws_szFeatureS.l0, laws_szFeature.f, laws_szPointS.f]
        rw [if_pos (by omega), if_pos (by omega), rdf_at l i hl1, hw, if_neg hc, hw2, if_pos hc2]
        rfl
      · obtain ⟨r, hr, hr2⟩ := ih (i + 1) (n - (l[i].f3.size : Int) - (l[i].f4.length : Int)) (by omega) (by omega) (by omega)
        refine ⟨r, Ev.step (fun k => ?_) hr, fun h x hx => ?_⟩
        · simp only [laws_szFeatureS.l0, laws_szFeature.f, laws_szPointS.f]
          rw [if_pos (by omega), if_pos (by omega), rdf_at l i hl1, hw, if_neg hc, hw2, if_neg hc2]
          simp only [Option.bind_some]
          rw [if_neg hc2]
          simp only [Option.bind_some]
          rw [if_neg hc2, w1 i (by omega)]
        · rcases List.mem_cons.1 hx with hx | hx
          · subst hx; omega
          · exact hr2 h x hx
theorem szFeatures (l : List S49) (hl : ∀ x ∈ l, x.f3.size ≤ 9223372036854775807 ∧ x.f4.length ≤ 9223372036854775807) (hb : l.length ≤ 9223372036854775807) : ∃ r, Ev (fun k => laws_szFeatureS.f k l 1048576) r ∧ (¬ r < 0 → l.length ≤ 1048576 ∧ ∀ x ∈ l, x.f3.size ≤ 1048576 ∧ x.f4.length ≤ 1048576) := by
  unfold laws_szFeatureS.f
  have hw : wrap64 (1048576 - (l.length : Int)) = 1048576 - (l.length : Int) := by unfold wrap64; omega
  rw [hw]
  by_cases hc : 1048576 - (l.length : Int) < 0
  · exact ⟨-1, by simp only [if_pos hc]; exact Ev.now _, fun h => by omega⟩
  · simp only [if_neg hc]
    obtain ⟨r, hr, hr2⟩ := szFeatures_l l hl (by omega) l.length 0 (1048576 - (l.length : Int)) (by omega) (by omega) (by omega)
    exact ⟨r, hr, fun h => ⟨by omega, by simpa using hr2 h⟩⟩
theorem szFeaturesB_l (l : List S49) (hl : ∀ x ∈ l, x.f3.size ≤ 9223372036854775807 ∧ x.f4.length ≤ 9223372036854775807) (hb : l.length < 9223372036854775807) (d : Nat) :
    ∀ (i : Nat) (n : Int), i + d = l.length → 0 ≤ n → n ≤ 1048576 → ∃ r, r ≤ 1048576 ∧ Ev (fun k => laws_szFeatureS.l0 k l n (i : Int)) r ∧ (¬ r < 0 → ∀ x ∈ l.drop i, x.f3.size ≤ 1048576 ∧ x.f4.length ≤ 1048576) := by
  induction d with
  | zero =>
    intro i n hi h0 h1
    have e : l.drop i = [] := List.drop_of_length_le (by omega)
    rw [e]
    refine ⟨n, h1, Ev.step (f := fun _ => some n) (fun k => ?_) (Ev.now _), fun _ x hx => by simp at hx⟩
    simp only [laws_szFeatureS.l0]
    rw [if_neg (by omega)]
  | succ d ih =>
    intro i n hi h0 h1
    have hl1 : i < l.length := by omega
    obtain ⟨hx1, hx2⟩ := hl _ (List.getElem_mem hl1)
    have e := List.drop_eq_getElem_cons hl1
    rw [e]
    have hw : wrap64 (n - (l[i].f3.size : Int)) = n - (l[i].f3.size : Int) := by unfold wrap64; omega
    by_cases hc : n - (l[i].f3.size : Int) < 0
    · refine ⟨-1, by omega, Ev.step (f := fun _ => some (-1)) (fun k => ?_) (Ev.now _), fun h => by omega⟩
      simp only [laws_szFeatureS.l0, laws_szFeature.f]
      rw [if_pos (by omega), if_pos (by omega), rdf_at l i hl1, hw, if_pos hc]
      rfl
    · have hw2 : wrap64 (n - (l[i].f3.size : Int) - (l[i].f4.length : Int)) = n - (l[i].f3.size : Int) - (l[i].f4.length : Int) := by unfold wrap64; omega
      by_cases hc2 : n - (l[i].f3.size : Int) - (l[i].f4.length : Int) < 0
      · refine ⟨-1, by omega, Ev.step (f := fun _ => some (-1)) (fun k => ?_) (Ev.now _), fun h => by omega⟩
        simp only [laws_szFeatureS.l0, laws_szFeature.f, laws_szPointS.f]
        rw [if_pos (by omega), if_pos (by omega), rdf_at l i hl1, hw, if_neg hc, hw2, if_pos hc2]
        rfl
      · obtain ⟨r, hr0, hr, hr2⟩ := ih (i + 1) (n - (l[i].f3.size : Int) - (l[i].f4.length : Int)) (by omega) (by omega) (by omega)
        refine ⟨r, hr0, Ev.step (fun k => ?_) hr, fun h x hx => ?_⟩
        · simp only [laws_szFeatureS.l0, laws_szFeature.f, laws_szPointS.f]
          rw [if_pos (by omega), if_pos (by omega), rdf_at l i hl1, hw, if_neg hc, hw2, if_neg hc2]
          simp only [Option.bind_some]
          rw [if_neg hc2]
          simp only [Option.bind_some]
          rw [if_neg hc2, w1 i (by omega)]
        · rcases List.mem_cons.1 hx with hx | hx
          · subst hx; omega
          · exact hr2 h x hx
theorem szFeaturesB (l : List S49) (hl : ∀ x ∈ l, x.f3.size ≤ 9223372036854775807 ∧ x.f4.length ≤ 9223372036854775807) (hb : l.length ≤ 9223372036854775807) : ∃ r, r ≤ 1048576 ∧ Ev (fun k => laws_szFeatureS.f k l 1048576) r ∧ (¬ r < 0 → l.length ≤ 1048576 ∧ ∀ x ∈ l, x.f3.size ≤ 1048576 ∧ x.f4.length ≤ 1048576) := by
  unfold laws_szFeatureS.f
  have hw : wrap64 (1048576 - (l.length : Int)) = 1048576 - (l.length : Int) := by unfold wrap64; omega
  rw [hw]
  by_cases hc : 1048576 - (l.length : Int) < 0
  · exact ⟨-1, by omega, by simp only [if_pos hc]; exact Ev.now _, fun h => by omega⟩
  · simp only [if_neg hc]
    obtain ⟨r, hr0, hr, hr2⟩ := szFeaturesB_l l hl (by omega) l.length 0 (1048576 - (l.length : Int)) (by omega) (by omega) (by omega)
    exact ⟨r, hr0, hr, fun h => ⟨by omega, by simpa using hr2 h⟩⟩
theorem szChartN (n : Int) (hn : 0 ≤ n) (hn1 : n ≤ 1048576) (l : List S49) (m : List S55) (hl : ∀ x ∈ l, x.f3.size ≤ 9223372036854775807 ∧ x.f4.length ≤ 9223372036854775807) (hb : l.length ≤ 9223372036854775807) (hm : ∀ x ∈ m, x.f1.size ≤ 9223372036854775807) (hc : m.length ≤ 9223372036854775807) :
    ∃ r, r ≤ 1048576 ∧ Ev (fun k => laws_szChart.f k l m n) r ∧ (¬ r < 0 → l.length ≤ 1048576 ∧ (∀ x ∈ l, x.f3.size ≤ 1048576 ∧ x.f4.length ≤ 1048576) ∧ m.length ≤ 1048576) := by
  unfold laws_szChart.f laws_szFeatureS.f
  have hw : wrap64 (n - (l.length : Int)) = n - (l.length : Int) := by unfold wrap64; omega
  rw [hw]
  by_cases h1 : n - (l.length : Int) < 0
  · refine ⟨-1, by omega, ?_, fun h => by omega⟩
    simp only [if_pos h1, Option.bind_some, if_pos (show (-1 : Int) < 0 by omega)]
    exact Ev.now _
  · simp only [if_neg h1]
    obtain ⟨r, hr0, hr, hr2⟩ := szFeaturesB_l l hl (by omega) l.length 0 (n - (l.length : Int)) (by omega) (by omega) (by omega)
    by_cases h2 : r < 0
    · refine ⟨-1, by omega, Ev.bind hr ?_, fun h => by omega⟩
      simp only [if_pos h2]; exact Ev.now _
    · have hw2 : wrap64 (r - (m.length : Int)) = r - (m.length : Int) := by unfold wrap64; omega
      by_cases h3 : r - (m.length : Int) < 0
      · refine ⟨-1, by omega, Ev.bind hr ?_, fun h => by omega⟩
        unfold laws_szLabelS.f
        simp only [if_neg h2, hw2, if_pos h3, Option.bind_some, if_pos (show (-1 : Int) < 0 by omega)]
        exact Ev.now _
      · obtain ⟨q, hq0, hq⟩ := szLabelsB_l m hm (by omega) m.length 0 (r - (m.length : Int)) (by omega) (by omega) (by omega)
        have hqf : Ev (fun k => laws_szLabelS.f k m r) q := by
          unfold laws_szLabelS.f
          simp only [hw2, if_neg h3]; exact hq
        by_cases h4 : q < 0
        · refine ⟨-1, by omega, Ev.bind hr ?_, fun h => by omega⟩
          simp only [if_neg h2]
          refine Ev.bind hqf ?_
          simp only [if_pos h4]; exact Ev.now _
        · refine ⟨q, hq0, Ev.bind hr ?_, fun _ => ⟨by omega, by simpa using hr2 h2, by omega⟩⟩
          simp only [if_neg h2]
          refine Ev.bind hqf ?_
          simp only [if_neg h4]; exact Ev.now _
theorem toChart_ev (l : List S49) (m : List S55) (h1 : l.length ≤ 1048576) (h2 : ∀ x ∈ l, x.f4.length ≤ 1048576) (h3 : m.length ≤ 1048576) : Ev (fun k => laws_toChart.f k l m) (l.map convF, m.map conv) := by
  unfold laws_toChart.f
  exact Ev.bind (toFeatures l h1 h2) (Ev.bind (toLabels m h3) (Ev.now _))
theorem eqChart_ev (L : List S59) (M : List S42) (hL : L.length < 9223372036854775807) (hx : ∀ x ∈ L, x.f4.length < 9223372036854775807) (hM : M.length ≤ 1048576) : Ev (fun k => laws_eqChart.f k L M L M) true := by
  unfold laws_eqChart.f
  refine Ev.bind (eqFeatures L hL hx) ?_
  simp only [if_true]
  refine Ev.bind (eqLabels M (by omega)) ?_
  simp only [if_true]
  exact Ev.now _
theorem map_hx {l : List S49} (h2 : ∀ x ∈ l, x.f3.size ≤ 1048576 ∧ x.f4.length ≤ 1048576) : ∀ x ∈ l.map convF, x.f4.length < 9223372036854775807 := by
  intro x hx
  obtain ⟨y, hy, rfl⟩ := List.mem_map.1 hx
  have := h2 y hy
  unfold convF
  simp only [List.length_map]
  omega
theorem slin_l (a b : List S38) (hl : a.length = b.length) (hb : a.length < 9223372036854775807) (d : Nat) : ∀ i : Nat, i + d = a.length → Ev (fun k => spec_EqualLines.l0 k a b (i : Int)) (ptsB (a.drop i) (b.drop i)) := by
  induction d with
  | zero =>
    intro i hi
    rw [List.drop_of_length_le (by omega), List.drop_of_length_le (by omega)]
    refine Ev.step (f := fun _ => some true) (fun k => ?_) (Ev.now _)
    simp only [spec_EqualLines.l0]
    rw [if_neg (by omega)]
  | succ d ih =>
    intro i hi
    have h1 : i < a.length := by omega
    have h2 : i < b.length := by omega
    rw [List.drop_eq_getElem_cons h1, List.drop_eq_getElem_cons h2, ptsB]
    by_cases hc : a[i].f0 = b[i].f0 ∧ a[i].f1 = b[i].f1
    · rw [decide_eq_true hc.1, decide_eq_true hc.2, Bool.true_and, Bool.true_and]
      refine Ev.step (fun k => ?_) (ih (i + 1) (by omega))
      simp only [spec_EqualLines.l0, es_rd a i h1, es_rd b i h2]
      rw [if_pos (by omega), if_pos (by omega), if_pos (by omega), if_neg (by simp [hc.1, hc.2]), es_w i (by omega)]
    · have : (decide (a[i].f0 = b[i].f0) && (decide (a[i].f1 = b[i].f1) && ptsB (a.drop (i + 1)) (b.drop (i + 1)))) = false := by
        by_cases q : a[i].f0 = b[i].f0
        · rw [decide_eq_false (fun h => hc ⟨q, h⟩)]; simp
        · rw [decide_eq_false q]; simp
      rw [this]
      refine Ev.step (f := fun _ => some false) (fun k => ?_) (Ev.now _)
      simp only [spec_EqualLines.l0, es_rd a i h1, es_rd b i h2]
      rw [if_pos (by omega), if_pos (by omega), if_pos (by omega), if_pos (by by_cases q : a[i].f0 = b[i].f0 <;> simp [q]; intro h; exact hc ⟨q, h⟩)]
theorem slin_f (a b : List S38) (hb : a.length < 9223372036854775807) : Ev (fun k => spec_EqualLines.f k a b) (ptsB a b) := by
  unfold spec_EqualLines.f
  by_cases hl : a.length = b.length
  · simp only [if_pos (show (a.length : Int) = (b.length : Int) by omega)]
    exact slin_l a b hl hb a.length 0 (by omega)
  · simp only [if_neg (show ¬ (a.length : Int) = (b.length : Int) by omega)]
    rw [ptsB_len a b hl]
    exact Ev.now _
theorem sef_ev (x y : S59) (hb : x.f4.length < 9223372036854775807) : Ev (fun k => spec_EqualFeatures.f k x.f0 x.f1 x.f2 x.f3 x.f4 y.f0 y.f1 y.f2 y.f3 y.f4) (efB x y) := by
  unfold spec_EqualFeatures.f efB
  by_cases h0 : x.f0 = y.f0
  · by_cases h1 : x.f1 = y.f1
    · by_cases h2 : x.f2 = y.f2
      · by_cases h3 : x.f3.toList = y.f3.toList
        · simp only [if_pos h0, if_pos h1, if_pos h2, if_pos h3, decide_eq_true h0, decide_eq_true h1, decide_eq_true h2, decide_eq_true h3, Bool.true_and]
          exact Ev.bind (slin_f _ _ hb) (Ev.now _)
        · simp only [if_pos h0, if_pos h1, if_pos h2, if_neg h3, decide_eq_true h0, decide_eq_true h1, decide_eq_true h2, decide_eq_false h3, Bool.true_and, Bool.false_and]
          exact Ev.now _
      · simp only [if_pos h0, if_pos h1, if_neg h2, decide_eq_true h0, decide_eq_true h1, decide_eq_false h2, Bool.true_and, Bool.false_and]
        exact Ev.now _
    · simp only [if_pos h0, if_neg h1, decide_eq_true h0, decide_eq_false h1, Bool.true_and, Bool.false_and]
      exact Ev.now _
  · simp only [if_neg h0, decide_eq_false h0, Bool.false_and]
    exact Ev.now _
theorem rdFe (l : List S59) (i : Nat) : rd_T59 l (i : Int) = l.getD i z59 := by unfold rd_T59; rw [Int.toNat_natCast]
theorem ses_l (a b : List S59) (hl : a.length = b.length) (hb : a.length < 9223372036854775807) (hx : ∀ x ∈ a, x.f4.length < 9223372036854775807) (d : Nat) : ∀ i : Nat, i + d = a.length → Ev (fun k => spec_EqualSources.l0 k a b (i : Int)) (esB (a.drop i) (b.drop i)) := by
  induction d with
  | zero =>
    intro i hi
    rw [List.drop_of_length_le (by omega), List.drop_of_length_le (by omega)]
    refine Ev.step (f := fun _ => some true) (fun k => ?_) (Ev.now _)
    simp only [spec_EqualSources.l0]
    rw [if_neg (by omega)]
  | succ d ih =>
    intro i hi
    have h1 : i < a.length := by omega
    have h2 : i < b.length := by omega
    have hm : a.getD i z59 ∈ a := by rw [List.getD_eq_getElem?_getD, List.getElem?_eq_getElem h1]; exact List.getElem_mem h1
    have hr := ih (i + 1) (by omega)
    rw [es_cut a b i h1 h2]
    have fe := sef_ev (a.getD i z59) (b.getD i z59) (hx _ hm)
    generalize hgx : a.getD i z59 = x at *
    generalize hgy : b.getD i z59 = y at *
    refine Ev.step (f := fun k => (spec_EqualFeatures.f k x.f0 x.f1 x.f2 x.f3 x.f4 y.f0 y.f1 y.f2 y.f3 y.f4).bind fun t => if t = true then spec_EqualSources.l0 k a b ((i + 1 : Nat) : Int) else some false) (fun k => ?_) (Ev.bind fe ?_)
    · simp only [spec_EqualSources.l0, rdFe, hgx, hgy]
      rw [if_pos (by omega), if_pos (by omega), if_pos (by omega), es_w i (by omega)]
    · cases efB x y
      · simp only [Bool.false_eq_true, if_false, Bool.false_and]; exact Ev.now _
      · simp only [if_true, Bool.true_and]; exact hr
theorem ses_f (a b : List S59) (hb : a.length < 9223372036854775807) (hx : ∀ x ∈ a, x.f4.length < 9223372036854775807) : Ev (fun k => spec_EqualSources.f k a b) (esB a b) := by
  unfold spec_EqualSources.f
  by_cases hl : a.length = b.length
  · simp only [if_pos (show (a.length : Int) = (b.length : Int) by omega)]
    exact ses_l a b hl hb hx a.length 0 (by omega)
  · simp only [if_neg (show ¬ (a.length : Int) = (b.length : Int) by omega)]
    rw [esB_len a b hl]
    exact Ev.now _
/-- Two labels differ. -/
def ldB (x y : S42) : Bool := (!(x.f0 == y.f0) || (!((x.f1.toList) == (y.f1.toList)) || (((!(x.f2.f0.f0 == y.f2.f0.f0) || (!(x.f2.f0.f1 == y.f2.f0.f1))) || ((!(x.f2.f1.f0 == y.f2.f1.f0) || (!(x.f2.f1.f1 == y.f2.f1.f1))))))))
def lsB : List S42 → List S42 → Bool
  | [], [] => true
  | x :: r, y :: s => !ldB x y && lsB r s
  | _, _ => false
theorem lsB_len : ∀ a b : List S42, a.length ≠ b.length → lsB a b = false
  | [], [], h => absurd rfl h
  | x :: r, y :: s, h => by rw [lsB, lsB_len r s (by simpa using h)]; simp
  | [], _ :: _, _ => rfl
  | _ :: _, [], _ => rfl
section
variable (a b : List S42) (hl : a.length = b.length) (hb : a.length < 9223372036854775807)
include hl hb
theorem sls_l (A B : List S59) (d : Nat) : ∀ i : Nat, i + d = a.length → Ev (fun k => spec_EqualCharts.l0 k (i : Int) A a B b) (lsB (a.drop i) (b.drop i)) := by
  induction d with
  | zero =>
    intro i hi
    rw [List.drop_of_length_le (by omega), List.drop_of_length_le (by omega)]
    refine Ev.step (f := fun _ => some true) (fun k => ?_) (Ev.now _)
    simp only [spec_EqualCharts.l0]
    rw [if_neg (by omega)]
  | succ d ih =>
    intro i hi
    have h1 : i < a.length := by omega
    have h2 : i < b.length := by omega
    have hr := ih (i + 1) (by omega)
    rw [List.drop_eq_getElem_cons h1, List.drop_eq_getElem_cons h2, lsB]
    cases hc : ldB a[i] b[i]
    · rw [Bool.not_false, Bool.true_and]
      refine Ev.step (fun k => ?_) hr
      simp only [spec_EqualCharts.l0, rdL_at a i h1, rdL_at b i h2]
      rw [if_pos (by omega), if_pos (by omega), if_pos (by omega), if_neg (by unfold ldB at hc; rw [hc]; simp), es_w i (by omega)]
    · rw [Bool.not_true, Bool.false_and]
      refine Ev.step (f := fun _ => some false) (fun k => ?_) (Ev.now _)
      simp only [spec_EqualCharts.l0, rdL_at a i h1, rdL_at b i h2]
      rw [if_pos (by omega), if_pos (by omega), if_pos (by omega), if_pos (by unfold ldB at hc; rw [hc])]
theorem ils_l (d : Nat) : ∀ i : Nat, i + d = a.length → Ev (fun k => impl_Label.l0 k a b (a.length : Int) (i : Int)) (lsB (a.drop i) (b.drop i)) := by
  induction d with
  | zero =>
    intro i hi
    rw [List.drop_of_length_le (by omega), List.drop_of_length_le (by omega)]
    refine Ev.step (f := fun _ => some true) (fun k => ?_) (Ev.now _)
    simp only [impl_Label.l0]
    rw [if_neg (by omega)]
  | succ d ih =>
    intro i hi
    have h1 : i < a.length := by omega
    have h2 : i < b.length := by omega
    have hr := ih (i + 1) (by omega)
    rw [List.drop_eq_getElem_cons h1, List.drop_eq_getElem_cons h2, lsB]
    cases hc : ldB a[i] b[i]
    · rw [Bool.not_false, Bool.true_and]
      refine Ev.step (fun k => ?_) hr
      simp only [impl_Label.l0, rdL_at a i h1, rdL_at b i h2]
      rw [if_pos (by omega), if_pos (by omega), if_pos (by omega), if_pos (by omega), if_neg (by unfold ldB at hc; rw [hc]; simp), es_w i (by omega)]
    · rw [Bool.not_true, Bool.false_and]
      refine Ev.step (f := fun _ => some false) (fun k => ?_) (Ev.now _)
      simp only [impl_Label.l0, rdL_at a i h1, rdL_at b i h2]
      rw [if_pos (by omega), if_pos (by omega), if_pos (by omega), if_pos (by omega), if_pos (by unfold ldB at hc; rw [hc])]
end
theorem ec_both (A B : List S59) (a b : List S42) (hA : A.length < 9223372036854775807) (hx : ∀ x ∈ A, x.f4.length < 9223372036854775807) (ha : a.length < 9223372036854775807) : Ev (fun k => spec_EqualCharts.f k A a B b) (esB A B && lsB a b) ∧ Ev (fun k => impl_EqualCharts.f k A a B b) (esB A B && lsB a b) := by
  have dead : Ev (fun k => spec_EqualCharts.j0 k true A a B b) false := Ev.step (f := fun _ => some false) (fun k => by simp [spec_EqualCharts.j0]) (Ev.now _)
  have ei : impl_EqualSources.f A B = some (esB A B) := by unfold impl_EqualSources.f; rw [if_pos ⟨hA, hx⟩]
  constructor
  · unfold spec_EqualCharts.f
    refine Ev.bind (ses_f A B hA hx) ?_
    cases esB A B
    · simp only [Bool.false_eq_true, if_false, Bool.false_and]; exact dead
    · simp only [if_true, Bool.true_and]
      by_cases hl : a.length = b.length
      · have r := sls_l a b hl ha A B a.length 0 (by omega)
        rw [show ((a.length : Int) != (b.length : Int)) = false by simp [hl]]
        exact Ev.step (fun k => by simp only [spec_EqualCharts.j0, Bool.false_eq_true, if_false]; rfl) r
      · rw [show ((a.length : Int) != (b.length : Int)) = true from bne_iff_ne.2 (by omega), lsB_len a b hl]
        exact dead
  · unfold impl_EqualCharts.f
    rw [ei]
    simp only [Option.bind_some]
    cases esB A B
    · simp only [Bool.false_eq_true, if_false, Bool.false_and]; exact Ev.now _
    · simp only [if_true, Bool.true_and]
      have r : Ev (fun k => impl_Label.f k a b) (lsB a b) := by
        unfold impl_Label.f
        by_cases hl : a.length = b.length
        · simp only [if_pos (show (a.length : Int) = (b.length : Int) by omega)]
          exact ils_l a b hl ha a.length 0 (by omega)
        · simp only [if_neg (show ¬ (a.length : Int) = (b.length : Int) by omega)]
          rw [lsB_len a b hl]
          exact Ev.now _
      exact Ev.bind r (Ev.now _)
theorem main : ∀ (l0_0 : List (S49)) (l0_1 : List (S55)) (l1_0 : List (S49)) (l1_1 : List (S55)), (l0_0.length ≤ 9223372036854775807 ∧ ∀ x ∈ l0_0, ((Lit.int .i64 x.f0).wf = true ∧ (Lit.int .i64 x.f1).wf = true ∧ (Lit.int .i64 x.f2).wf = true ∧ x.f3.size ≤ 9223372036854775807 ∧ (x.f4.length ≤ 9223372036854775807 ∧ ∀ y ∈ x.f4, ((Lit.int .i64 y.f0).wf = true ∧ (Lit.int .i64 y.f1).wf = true)))) → (l0_1.length ≤ 9223372036854775807 ∧ ∀ x ∈ l0_1, ((Lit.int .i64 x.f0).wf = true ∧ x.f1.size ≤ 9223372036854775807 ∧ (((Lit.int .i64 x.f2.f0.f0).wf = true ∧ (Lit.int .i64 x.f2.f0.f1).wf = true) ∧ ((Lit.int .i64 x.f2.f1.f0).wf = true ∧ (Lit.int .i64 x.f2.f1.f1).wf = true)))) → (l1_0.length ≤ 9223372036854775807 ∧ ∀ x ∈ l1_0, ((Lit.int .i64 x.f0).wf = true ∧ (Lit.int .i64 x.f1).wf = true ∧ (Lit.int .i64 x.f2).wf = true ∧ x.f3.size ≤ 9223372036854775807 ∧ (x.f4.length ≤ 9223372036854775807 ∧ ∀ y ∈ x.f4, ((Lit.int .i64 y.f0).wf = true ∧ (Lit.int .i64 y.f1).wf = true)))) → (l1_1.length ≤ 9223372036854775807 ∧ ∀ x ∈ l1_1, ((Lit.int .i64 x.f0).wf = true ∧ x.f1.size ≤ 9223372036854775807 ∧ (((Lit.int .i64 x.f2.f0.f0).wf = true ∧ (Lit.int .i64 x.f2.f0.f1).wf = true) ∧ ((Lit.int .i64 x.f2.f1.f0).wf = true ∧ (Lit.int .i64 x.f2.f1.f1).wf = true)))) → ∃ k, laws_FnExactEqualCharts.f k l0_0 l0_1 l1_0 l1_1 = some true := by
  intro l m l' m' hl hm hl' hm'
  refine Ev.rounds (r := true) ?_
  unfold laws_FnExactEqualCharts.f
  obtain ⟨r, hr0, hr, hb⟩ := szChartN 1048576 (by omega) (by omega) l m (fun x hx => ⟨(hl.2 x hx).2.2.2.1, (hl.2 x hx).2.2.2.2.1⟩) hl.1 (fun x hx => (hm.2 x hx).2.1) hm.1
  refine Ev.bind hr ?_
  by_cases hc : r < 0
  · simp only [if_pos hc]; exact Ev.now _
  · simp only [if_neg hc]
    obtain ⟨q, hq0, hq, hd⟩ := szChartN r (by omega) hr0 l' m' (fun x hx => ⟨(hl'.2 x hx).2.2.2.1, (hl'.2 x hx).2.2.2.2.1⟩) hl'.1 (fun x hx => (hm'.2 x hx).2.1) hm'.1
    refine Ev.bind hq ?_
    by_cases hc2 : q < 0
    · simp only [if_pos hc2]; exact Ev.now _
    · simp only [if_neg hc2]
      obtain ⟨h1, h2, h3⟩ := hb hc
      obtain ⟨g1, g2, g3⟩ := hd hc2
      have t := toChart_ev l m h1 (fun x hx => (h2 x hx).2) h3
      have t' := toChart_ev l' m' g1 (fun x hx => (g2 x hx).2) g3
      have hx := map_hx h2
      have hx' := map_hx g2
      have hL : (l.map convF).length < 9223372036854775807 := by simp; omega
      have hL' : (l'.map convF).length < 9223372036854775807 := by simp; omega
      have hM : (m.map conv).length ≤ 1048576 := by simpa using h3
      have hM' : (m'.map conv).length ≤ 1048576 := by simpa using g3
      generalize l.map convF = L at t hx hL
      generalize m.map conv = M at t hM
      generalize l'.map convF = L' at t' hx' hL'
      generalize m'.map conv = M' at t' hM'
      obtain ⟨s1, s2⟩ := ec_both L L' M M' hL hx (by omega)
      have ec := eqChart_ev L M hL hx hM
      have ec' := eqChart_ev L' M' hL' hx' hM'
      refine Ev.bind t (Ev.bind t' (Ev.bind s1 (Ev.bind t (Ev.bind t' (Ev.bind s2 ?_)))))
      simp only [bne_self_eq_false, Bool.false_eq_true, if_false]
      refine Ev.bind t (Ev.bind ec ?_)
      simp only [if_true]
      refine Ev.bind t' (Ev.bind ec' ?_)
      simp only [if_true]
      exact Ev.now _
end Go.Proofs.Ytellpkihlbbnhaa.Pure.FnExactEqualCharts
