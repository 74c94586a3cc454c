/- The number of points of features: the same sum. No condition. -/
import Derived.Test.YtlclpggodhodiaaPFnExactCountPointsx
namespace Go.Proofs.Ytlclpggodhodiaa.Pure.FnExactCountPoints
open Go Go.RowKit Go.Proofs.Ytlclpggodhodiaa.PFnExactCountPoints Go.Proofs.YtlclpggodhodiaaW.PrintWords Go.Proofs.YtlclpggodhodiaaW.PrintLast Go.Proofs.YtlclpggodhodiaaW.PrintMore Go.Proofs.YtlclpggodhodiaaGeo
set_option linter.unusedVariables false
set_option linter.unusedSimpArgs false
theorem w1 (i : Nat) (h : i < 9223372036854775807) : wrap64 ((i : Int) + 1) = ((i + 1 : Nat) : Int) := by unfold wrap64; omega
theorem rd_at (l : List Int) (i : Nat) (h : i < l.length) : rd l (i : Int) = l[i] := by
  unfold rd
  rw [Int.toNat_natCast, List.getD_eq_getElem?_getD, List.getElem?_eq_getElem h]
  rfl
theorem rdp_at (l : List S31) (i : Nat) (h : i < l.length) : rd_T31 l (i : Int) = l[i] := by
  unfold rd_T31
  rw [Int.toNat_natCast, List.getD_eq_getElem?_getD, List.getElem?_eq_getElem h]
  rfl
theorem rdP_at (l : List S33) (i : Nat) (h : i < l.length) : rd_T33 l (i : Int) = l[i] := by
  unfold rd_T33
  rw [Int.toNat_natCast, List.getD_eq_getElem?_getD, List.getElem?_eq_getElem h]
  rfl
def convP (x : S31) : S33 := ⟨x.f0, x.f1⟩
theorem toPoints_l (l : List S31) (hb : l.length < 9223372036854775807) (d : Nat) : ∀ i : Nat, i + d = l.length → Ev (fun k => laws_toPointS.l0 k l ((l.map convP).take i ++ List.replicate d z33) (i : Int)) (l.map convP) := by
  induction d with
  | zero =>
    intro i hi
    refine Ev.step (f := fun _ => some (l.map convP)) (fun k => ?_) (Ev.now _)
    simp only [laws_toPointS.l0]
    rw [if_neg (by omega), List.take_of_length_le (by simp; omega)]
    simp
  | succ d ih =>
    intro i hi
    have h1 : i < l.length := by omega
    refine Ev.step (fun k => ?_) (ih (i + 1) (by omega))
    simp only [laws_toPointS.l0, laws_toPoint.f, Option.bind_some]
    rw [if_pos (by omega), if_pos (by omega), if_pos (by simp; omega), rdp_at l i h1, w1 i (by omega)]
    congr 1
    have hm : i < (l.map convP).length := by simpa using h1
    rw [Int.toNat_natCast, List.set_append_right _ _ (by simp; omega), List.take_succ_eq_append_getElem hm, List.replicate_succ]
    simp only [List.length_take, List.length_map, Nat.min_eq_left (show i ≤ l.length by omega), Nat.sub_self, List.set_cons_zero, List.append_assoc, List.singleton_append, List.getElem_map, convP]
theorem toPoints (l : List S31) (hb : l.length ≤ 1048576) : Ev (fun k => laws_toPointS.f k l) (l.map convP) := by
  unfold laws_toPointS.f
  simp only [if_pos (show (0 : Int) ≤ (l.length : Int) by omega), Int.toNat_natCast, if_pos (show l.length ≤ 17592186044416 by omega)]
  have := toPoints_l l (by omega) l.length 0 (by omega)
  simpa using this
theorem eqPoints_l (l : List S33) (hb : l.length < 9223372036854775807) (d : Nat) : ∀ i : Nat, i + d = l.length → Ev (fun k => laws_eqPointS.l0 k l l (i : Int)) true := by
  induction d with
  | zero =>
    intro i hi
    refine Ev.step (f := fun _ => some true) (fun k => ?_) (Ev.now _)
    simp only [laws_eqPointS.l0]
    rw [if_neg (by omega)]
  | succ d ih =>
    intro i hi
    have h1 : i < l.length := by omega
    refine Ev.step (fun k => ?_) (ih (i + 1) (by omega))
    simp only [laws_eqPointS.l0, laws_eqPoint.f]
    rw [if_pos (by omega), if_pos (by omega), if_pos (by omega), w1 i (by omega)]
    simp
theorem eqPoints (l : List S33) (hb : l.length < 9223372036854775807) : Ev (fun k => laws_eqPointS.f k l l) true := by
  unfold laws_eqPointS.f
  simp only [if_true]
  exact eqPoints_l l hb l.length 0 (by omega)
theorem rdf_at (l : List S109) (i : Nat) (h : i < l.length) : rd_T109 l (i : Int) = l[i] := by
  unfold rd_T109
  rw [Int.toNat_natCast, List.getD_eq_getElem?_getD, List.getElem?_eq_getElem h]
  rfl
theorem rdF_at (l : List S112) (i : Nat) (h : i < l.length) : rd_T112 l (i : Int) = l[i] := by
  unfold rd_T112
  rw [Int.toNat_natCast, List.getD_eq_getElem?_getD, List.getElem?_eq_getElem h]
  rfl
def convF (x : S109) : S112 := ⟨x.f0, x.f1, x.f2, x.f3, x.f4.map convP⟩
theorem toFeatures_l (l : List S109) (hb : l.length < 9223372036854775807) (hp : ∀ x ∈ l, x.f4.length ≤ 1048576) (d : Nat) : ∀ i : Nat, i + d = l.length → Ev (fun k => laws_toFeatureS.l0 k l ((l.map convF).take i ++ List.replicate d z112) (i : Int)) (l.map convF) := by
  induction d with
  | zero =>
    intro i hi
    refine Ev.step (f := fun _ => some (l.map convF)) (fun k => ?_) (Ev.now _)
    simp only [laws_toFeatureS.l0]
    rw [if_neg (by omega), List.take_of_length_le (by simp; omega)]
    simp
  | succ d ih =>
    intro i hi
    have h1 : i < l.length := by omega
    have ht := toPoints l[i].f4 (hp _ (List.getElem_mem h1))
    have hf : Ev (fun k => laws_toFeature.f k l[i].f0 l[i].f1 l[i].f2 l[i].f3 l[i].f4) (l[i].f0, l[i].f1, l[i].f2, l[i].f3, l[i].f4.map convP) := by
      unfold laws_toFeature.f
      exact Ev.bind ht (Ev.now _)
    refine Ev.step (f := fun k => (laws_toFeature.f k l[i].f0 l[i].f1 l[i].f2 l[i].f3 l[i].f4).bind fun b => laws_toFeatureS.l0 k l (((l.map convF).take i ++ List.replicate (d + 1) z112).set i (⟨b.1, b.2.1, b.2.2.1, b.2.2.2.1, b.2.2.2.2⟩ : S112)) ((i + 1 : Nat) : Int)) (fun k => ?_) (Ev.bind hf ?_)
    · simp only [laws_toFeatureS.l0]
      have hlen : (i : Int) < (((l.map convF).take i ++ List.replicate (d + 1) z112).length : Int) := by simp; omega
      rw [if_pos (by omega), if_pos (by omega), rdf_at l i h1, w1 i (by omega), Int.toNat_natCast]
      simp only [if_pos hlen]
    · have hm : i < (l.map convF).length := by simpa using h1
      have e : ((l.map convF).take i ++ List.replicate (d + 1) z112).set i (⟨l[i].f0, l[i].f1, l[i].f2, l[i].f3, l[i].f4.map convP⟩ : S112) = (l.map convF).take (i + 1) ++ List.replicate d z112 := by
        rw [List.set_append_right _ _ (by simp; omega), List.take_succ_eq_append_getElem hm, List.replicate_succ]
        simp only [List.length_take, List.length_map, Nat.min_eq_left (show i ≤ l.length by omega), Nat.sub_self, List.set_cons_zero, List.append_assoc, List.singleton_append, List.getElem_map, convF]
      simp only [e]
      exact ih (i + 1) (by omega)
theorem toFeatures (l : List S109) (hb : l.length ≤ 1048576) (hp : ∀ x ∈ l, x.f4.length ≤ 1048576) : Ev (fun k => laws_toFeatureS.f k l) (l.map convF) := by
  unfold laws_toFeatureS.f
  simp only [if_pos (show (0 : Int) ≤ (l.length : Int) by omega), Int.toNat_natCast, if_pos (show l.length ≤ 4398046511104 by omega)]
  have := toFeatures_l l (by omega) hp l.length 0 (by omega)
  simpa using this
theorem eqFeatures_l (l : List S112) (hb : l.length < 9223372036854775807) (hp : ∀ x ∈ l, x.f4.length < 9223372036854775807) (d : Nat) : ∀ i : Nat, i + d = l.length → Ev (fun k => laws_eqFeatureS.l0 k l l (i : Int)) true := by
  induction d with
  | zero =>
    intro i hi
    refine Ev.step (f := fun _ => some true) (fun k => ?_) (Ev.now _)
    simp only [laws_eqFeatureS.l0]
    rw [if_neg (by omega)]
  | succ d ih =>
    intro i hi
    have h1 : i < l.length := by omega
    have hf : Ev (fun k => laws_eqFeature.f k l[i].f0 l[i].f1 l[i].f2 l[i].f3 l[i].f4 l[i].f0 l[i].f1 l[i].f2 l[i].f3 l[i].f4) true := by
      unfold laws_eqFeature.f
      simp only [if_true]
      refine Ev.bind (eqPoints l[i].f4 (hp _ (List.getElem_mem h1))) ?_
      simp only [if_true]
      exact Ev.now _
    refine Ev.step (f := fun k => (laws_eqFeature.f k l[i].f0 l[i].f1 l[i].f2 l[i].f3 l[i].f4 l[i].f0 l[i].f1 l[i].f2 l[i].f3 l[i].f4).bind fun t => if t = true then laws_eqFeatureS.l0 k l l ((i + 1 : Nat) : Int) else some false) (fun k => ?_) (Ev.bind hf ?_)
    · simp only [laws_eqFeatureS.l0]
      rw [if_pos (by omega), if_pos (by omega), if_pos (by omega), rdF_at l i h1, w1 i (by omega)]
    · simp only [if_true]
      exact ih (i + 1) (by omega)
theorem eqFeatures (l : List S112) (hb : l.length < 9223372036854775807) (hp : ∀ x ∈ l, x.f4.length < 9223372036854775807) : Ev (fun k => laws_eqFeatureS.f k l l) true := by
  unfold laws_eqFeatureS.f
  simp only [if_true]
  exact eqFeatures_l l hb hp l.length 0 (by omega)
theorem szFeatures_l (l : List S109) (hl : ∀ x ∈ l, x.f3.size ≤ 9223372036854775807 ∧ x.f4.length ≤ 9223372036854775807) (hb : l.length < 9223372036854775807) (d : Nat) :
    ∀ (i : Nat) (n : Int), i + d = l.length → 0 ≤ n → n ≤ 1048576 → ∃ r, Ev (fun k => laws_szFeatureS.l0 k l n (i : Int)) r ∧ (¬ r < 0 → ∀ x ∈ l.drop i, x.f3.size ≤ 1048576 ∧ x.f4.length ≤ 1048576) := by
  induction d with
  | zero =>
    intro i n hi h0 h1
    have e : l.drop i = [] := List.drop_of_length_le (by omega)
    rw [e]
    refine ⟨n, Ev.step (f := fun _ => some n) (fun k => ?_) (Ev.now _), fun _ x hx => by simp at hx⟩
    simp only [laws_szFeatureS.l0]
    rw [if_neg (by omega)]
  | succ d ih =>
    intro i n hi h0 h1
    have hl1 : i < l.length := by omega
    obtain ⟨hx1, hx2⟩ := hl _ (List.getElem_mem hl1)
    have e := List.drop_eq_getElem_cons hl1
    rw [e]
    have hw : wrap64 (n - (l[i].f3.size : Int)) = n - (l[i].f3.size : Int) := by unfold wrap64; omega
    by_cases hc : n - (l[i].f3.size : Int) < 0
    · refine ⟨-1, Ev.step (f := fun _ => some (-1)) (fun k => ?_) (Ev.now _), fun h => by omega⟩
      simp only [laws_szFeatureS.l0, laws_szFeature.f]
      rw [if_pos (by omega), if_pos (by omega), rdf_at l i hl1, hw, if_pos hc]
      rfl
    · have hw2 : wrap64 (n - (l[i].f3.size : Int) - (l[i].f4.length : Int)) = n - (l[i].f3.size : Int) - (l[i].f4.length : Int) := by unfold wrap64; omega
      by_cases hc2 : n - (l[i].f3.size : Int) - (l[i].f4.length : Int) < 0
      · refine ⟨-1, Ev.step (f := fun _ => some (-1)) (fun k => ?_) (Ev.now _), fun h => by omega⟩
        simp only [laws_szFeatureS.l0, laws_szFeature.f, laws_szPointS.f]
        rw [if_pos (by omega), if_pos (by omega), rdf_at l i hl1, hw, if_neg hc, hw2, if_pos hc2]
        rfl
      · obtain ⟨r, hr, hr2⟩ := ih (i + 1) (n - (l[i].f3.size : Int) - (l[i].f4.length : Int)) (by omega) (by omega) (by omega)
        refine ⟨r, Ev.step (fun k => ?_) hr, fun h x hx => ?_⟩
        · simp only [laws_szFeatureS.l0, laws_szFeature.f, laws_szPointS.f]
          rw [if_pos (by omega), if_pos (by omega), rdf_at l i hl1, hw, if_neg hc, hw2, if_neg hc2]
          simp only [Option.bind_some]
          rw [if_neg hc2]
          simp only [Option.bind_some]
          rw [if_neg hc2, w1 i (by omega)]
        · rcases List.mem_cons.1 hx with hx | hx
          · subst hx; omega
          · exact hr2 h x hx
theorem szFeatures (l : List S109) (hl : ∀ x ∈ l, x.f3.size ≤ 9223372036854775807 ∧ x.f4.length ≤ 9223372036854775807) (hb : l.length ≤ 9223372036854775807) : ∃ r, Ev (fun k => laws_szFeatureS.f k l 1048576) r ∧ (¬ r < 0 → l.length ≤ 1048576 ∧ ∀ x ∈ l, x.f3.size ≤ 1048576 ∧ x.f4.length ≤ 1048576) := by
  unfold laws_szFeatureS.f
  have hw : wrap64 (1048576 - (l.length : Int)) = 1048576 - (l.length : Int) := by unfold wrap64; omega
  rw [hw]
  by_cases hc : 1048576 - (l.length : Int) < 0
  · exact ⟨-1, by simp only [if_pos hc]; exact Ev.now _, fun h => by omega⟩
  · simp only [if_neg hc]
    obtain ⟨r, hr, hr2⟩ := szFeatures_l l hl (by omega) l.length 0 (1048576 - (l.length : Int)) (by omega) (by omega) (by omega)
    exact ⟨r, hr, fun h => ⟨by omega, by simpa using hr2 h⟩⟩
theorem count_l (l : List S112) (hb : l.length < 9223372036854775807) (d : Nat) : ∀ (i : Nat) (x : Int), i + d = l.length → ∃ v, Ev (fun k => spec_CountPoints.l0 k l x (i : Int)) v ∧ Ev (fun k => impl_CountPoints.l0 k x l (l.length : Int) (i : Int)) v := by
  induction d with
  | zero =>
    intro i x hi
    refine ⟨x, Ev.step (f := fun _ => some x) (fun k => ?_) (Ev.now _), Ev.step (f := fun _ => some x) (fun k => ?_) (Ev.now _)⟩
    · simp only [spec_CountPoints.l0]; rw [if_neg (by omega)]
    · simp only [impl_CountPoints.l0]; rw [if_neg (by omega)]
  | succ d ih =>
    intro i x hi
    have h1 : i < l.length := by omega
    obtain ⟨v, e1, e2⟩ := ih (i + 1) (wrap64 (x + (l[i].f4.length : Int))) (by omega)
    refine ⟨v, Ev.step (fun k => ?_) e1, Ev.step (fun k => ?_) e2⟩
    · simp only [spec_CountPoints.l0]
      rw [if_pos (by omega), if_pos (by omega), rdF_at l i h1, w1 i (by omega)]
    · simp only [impl_CountPoints.l0]
      rw [if_pos (by omega), if_pos (by omega), if_pos (by omega), rdF_at l i h1, w1 i (by omega)]
theorem main : ∀ (l0 : List (S109)), (l0.length ≤ 9223372036854775807 ∧ ∀ x ∈ l0, ((Lit.int .i64 x.f0).wf = true ∧ (Lit.int .i64 x.f1).wf = true ∧ (Lit.int .i64 x.f2).wf = true ∧ x.f3.size ≤ 9223372036854775807 ∧ (x.f4.length ≤ 9223372036854775807 ∧ ∀ y ∈ x.f4, ((Lit.int .i64 y.f0).wf = true ∧ (Lit.int .i64 y.f1).wf = true)))) → ∃ k, laws_FnExactCountPoints.f k l0 = some true := by
  intro l hl
  refine Ev.rounds (r := true) ?_
  unfold laws_FnExactCountPoints.f
  obtain ⟨r, hr, hlen⟩ := szFeatures l (fun x hx => ⟨(hl.2 x hx).2.2.2.1, (hl.2 x hx).2.2.2.2.1⟩) hl.1
  refine Ev.bind hr ?_
  by_cases hc : r < 0
  · simp only [if_pos hc]; exact Ev.now _
  · simp only [if_neg hc]
    obtain ⟨hb, hp⟩ := hlen hc
    have ht := toFeatures l hb (fun x hx => (hp x hx).2)
    have hm : (l.map convF).length ≤ 1048576 := by simpa using hb
    have hq : ∀ x ∈ l.map convF, x.f4.length < 9223372036854775807 := by
      intro x hx
      obtain ⟨y, hy, e⟩ := List.mem_map.1 hx
      have := (hp y hy).2
      rw [← e]
      simp only [convF, List.length_map]
      omega
    generalize l.map convF = L at ht hm hq
    obtain ⟨v, e1, e2⟩ := count_l L (by omega) L.length 0 0 (by omega)
    refine Ev.bind ht (Ev.bind (show Ev (fun k => spec_CountPoints.f k L) v from e1) (Ev.bind ht (Ev.bind (show Ev (fun k => impl_CountPoints.f k L) v from e2) ?_)))
    simp only [if_true]
    refine Ev.bind ht (Ev.bind (eqFeatures L (by omega) hq) ?_)
    simp only [if_true]
    exact Ev.now _
end Go.Proofs.Ytlclpggodhodiaa.Pure.FnExactCountPoints
