/- The ids of labels: the program's list and the reference's are the same, and marking what the program was given changes nothing of it. No condition. -/
import Derived.Test.YtlclpggodhodiaaPFnExactNamedIdsx
namespace Go.Proofs.Ytlclpggodhodiaa.Pure.FnExactNamedIds
open Go Go.RowKit Go.Proofs.Ytlclpggodhodiaa.PFnExactNamedIds Go.Proofs.YtlclpggodhodiaaW.PrintWords Go.Proofs.YtlclpggodhodiaaW.PrintLast Go.Proofs.YtlclpggodhodiaaW.PrintMore Go.Proofs.YtlclpggodhodiaaGeo
set_option linter.unusedVariables false
set_option linter.unusedSimpArgs false
theorem w1 (i : Nat) (h : i < 9223372036854775807) : wrap64 ((i : Int) + 1) = ((i + 1 : Nat) : Int) := by unfold wrap64; omega
theorem rd_at (l : List Int) (i : Nat) (h : i < l.length) : rd l (i : Int) = l[i] := by
  unfold rd
  rw [Int.toNat_natCast, List.getD_eq_getElem?_getD, List.getElem?_eq_getElem h]
  rfl
theorem eqInts_l (a b : List Int) (hl : a.length = b.length) (hb : a.length < 9223372036854775807) (d : Nat) : ∀ i : Nat, i + d = a.length → Ev (fun k => laws_eqIntS.l0 k a b (i : Int)) (decide (a.drop i = b.drop i)) := by
  induction d with
  | zero =>
    intro i hi
    refine Ev.step (f := fun _ => some (decide (a.drop i = b.drop i))) (fun k => ?_) (Ev.now _)
    simp only [laws_eqIntS.l0]
    rw [if_neg (by omega), List.drop_of_length_le (by omega), List.drop_of_length_le (by omega)]
    simp
  | succ d ih =>
    intro i hi
    have h1 : i < a.length := by omega
    have h2 : i < b.length := by omega
    have ea := List.drop_eq_getElem_cons h1
    have eb := List.drop_eq_getElem_cons h2
    by_cases he : a[i] = b[i]
    · have := ih (i + 1) (by omega)
      have e : decide (a.drop i = b.drop i) = decide (a.drop (i + 1) = b.drop (i + 1)) := decide_eq_decide.2 (by rw [ea, eb, List.cons.injEq]; exact ⟨fun h => h.2, fun h => ⟨he, h⟩⟩)
      rw [e]
      refine Ev.step (fun k => ?_) this
      simp only [laws_eqIntS.l0]
      rw [if_pos (by omega), if_pos (by omega), if_pos (by omega), rd_at a i h1, rd_at b i h2, if_pos he, w1 i (by omega)]
    · have e : decide (a.drop i = b.drop i) = false := decide_eq_false (by rw [ea, eb, List.cons.injEq]; exact fun h => he h.1)
      rw [e]
      refine Ev.step (f := fun _ => some false) (fun k => ?_) (Ev.now _)
      simp only [laws_eqIntS.l0]
      rw [if_pos (by omega), if_pos (by omega), if_pos (by omega), rd_at a i h1, rd_at b i h2, if_neg he]
theorem eqInts (a b : List Int) (hb : a.length < 9223372036854775807) : Ev (fun k => laws_eqIntS.f k a b) (decide (a = b)) := by
  unfold laws_eqIntS.f
  by_cases hl : a.length = b.length
  · simp only [if_pos (show (a.length : Int) = (b.length : Int) by omega)]
    have := eqInts_l a b hl hb a.length 0 (by omega)
    simpa using this
  · simp only [if_neg (show ¬ (a.length : Int) = (b.length : Int) by omega)]
    have e : decide (a = b) = false := by simp; intro h; exact hl (by rw [h])
    rw [e]
    exact Ev.now _
def marks (v : Int) (n : Nat) : List Int := (List.range n).map fun (j : Nat) => v + (j : Int)
theorem marks_zero (v : Int) : marks v 0 = [] := rfl
theorem marks_succ (v : Int) (n : Nat) : marks v (n + 1) = v :: marks (v + 1) n := by
  unfold marks
  rw [List.range_succ_eq_map]
  simp only [List.map_cons, List.map_map, List.cons.injEq]
  refine ⟨by simp, List.map_congr_left fun j _ => ?_⟩
  simp only [Function.comp]
  omega
theorem wrapv (v : Int) (h0 : 0 ≤ v) (h : v < 9223372036854775807) : wrap64 (v + 1) = v + 1 := by unfold wrap64; omega
theorem markInts_l (suf : List Int) : ∀ (pre : List Int) (v : Int), 0 ≤ v → pre.length + suf.length < 4611686018427387904 → v + (suf.length : Int) < 4611686018427387904 →
    Ev (fun k => laws_markIntS.l0 k (pre ++ suf) v (pre.length : Int)) (v + (suf.length : Int), pre ++ marks v suf.length) := by
  induction suf with
  | nil =>
    intro pre v h0 h1 h2
    refine Ev.step (f := fun _ => some (v + (([] : List Int).length : Int), pre ++ marks v 0)) (fun k => ?_) (Ev.now _)
    simp only [laws_markIntS.l0]
    rw [if_neg (by simp)]
    simp [marks_zero]
  | cons x suf ih =>
    intro pre v h0 h1 h2
    simp only [List.length_cons] at h1 h2
    have := ih (pre ++ [v]) (v + 1) (by omega) (by simp; omega) (by omega)
    have e : (v + 1 + (suf.length : Int), (pre ++ [v]) ++ marks (v + 1) suf.length) = (v + ((x :: suf).length : Int), pre ++ marks v (x :: suf).length) := by
      simp only [List.length_cons, marks_succ, List.append_assoc, List.singleton_append, Prod.mk.injEq, and_true]
      omega
    rw [e] at this
    refine Ev.step (fun k => ?_) this
    simp only [laws_markIntS.l0]
    rw [if_pos (by simp; omega), if_pos (by omega), wrapv v h0 (by omega), w1 pre.length (by omega)]
    congr 1
    · rw [Int.toNat_natCast, List.set_append_right _ _ (Nat.le_refl _), Nat.sub_self]
      simp
    · simp
theorem markInts (l : List Int) (h : l.length < 2305843009213693952) : Ev (fun k => laws_markIntS.f k l 1) (1 + (l.length : Int), marks 1 l.length) := by
  have := markInts_l l [] 1 (by omega) (by simp; omega) (by omega)
  simpa [laws_markIntS.f] using this
theorem heldInts_l (n : Nat) : ∀ (pre : List Int) (v : Int), 0 ≤ v → pre.length + n < 4611686018427387904 → v + (n : Int) < 4611686018427387904 →
    Ev (fun k => laws_heldIntS.l0 k (pre ++ marks v n) v (pre.length : Int)) (v + (n : Int)) := by
  induction n with
  | zero =>
    intro pre v h0 h1 h2
    refine Ev.step (f := fun _ => some (v + ((0 : Nat) : Int))) (fun k => ?_) (Ev.now _)
    simp only [laws_heldIntS.l0]
    rw [if_neg (by simp [marks_zero])]
    simp
  | succ n ih =>
    intro pre v h0 h1 h2
    have := ih (pre ++ [v]) (v + 1) (by omega) (by simp; omega) (by omega)
    have e : (pre ++ [v]) ++ marks (v + 1) n = pre ++ marks v (n + 1) := by rw [marks_succ]; simp
    have e2 : v + 1 + (n : Int) = v + ((n + 1 : Nat) : Int) := by omega
    rw [e, e2] at this
    refine Ev.step (fun k => ?_) this
    simp only [laws_heldIntS.l0]
    have hlen : (pre ++ marks v (n + 1)).length = pre.length + (n + 1) := by simp [marks]
    rw [if_pos (by rw [hlen]; omega), if_pos (by omega), rd_at _ pre.length (by rw [hlen]; omega)]
    rw [if_pos (by simp [marks_succ]), wrapv v h0 (by omega), w1 pre.length (by omega)]
    congr 1
    simp
theorem heldInts (n : Nat) (h : n < 2305843009213693952) : Ev (fun k => laws_heldIntS.f k (marks 1 n) 1) (1 + (n : Int)) := by
  have := heldInts_l n [] 1 (by omega) (by simp; omega) (by omega)
  simpa [laws_heldIntS.f] using this
theorem rdl_at (l : List S117) (i : Nat) (h : i < l.length) : rd_T117 l (i : Int) = l[i] := by
  unfold rd_T117
  rw [Int.toNat_natCast, List.getD_eq_getElem?_getD, List.getElem?_eq_getElem h]
  rfl
theorem rdL_at (l : List S119) (i : Nat) (h : i < l.length) : rd_T119 l (i : Int) = l[i] := by
  unfold rd_T119
  rw [Int.toNat_natCast, List.getD_eq_getElem?_getD, List.getElem?_eq_getElem h]
  rfl
def conv (x : S117) : S119 := ⟨x.f0, x.f1, (⟨(⟨x.f2.f0.f0, x.f2.f0.f1⟩ : S33), (⟨x.f2.f1.f0, x.f2.f1.f1⟩ : S33)⟩ : S39)⟩
theorem toLabels_l (l : List S117) (hb : l.length < 9223372036854775807) (d : Nat) : ∀ i : Nat, i + d = l.length → Ev (fun k => laws_toLabelS.l0 k l ((l.map conv).take i ++ List.replicate d z119) (i : Int)) (l.map conv) := by
  induction d with
  | zero =>
    intro i hi
    refine Ev.step (f := fun _ => some (l.map conv)) (fun k => ?_) (Ev.now _)
    simp only [laws_toLabelS.l0]
    rw [if_neg (by omega), List.take_of_length_le (by simp; omega)]
    simp
  | succ d ih =>
    intro i hi
    have h1 : i < l.length := by omega
    refine Ev.step (fun k => ?_) (ih (i + 1) (by omega))
    simp only [laws_toLabelS.l0, laws_toLabel.f, laws_toBox.f, laws_toPoint.f, Option.bind_some]
    rw [if_pos (by omega), if_pos (by omega), if_pos (by simp; omega), rdl_at l i h1, w1 i (by omega)]
    congr 1
    have hm : i < (l.map conv).length := by simpa using h1
    rw [Int.toNat_natCast, List.set_append_right _ _ (by simp; omega), List.take_succ_eq_append_getElem hm, List.replicate_succ]
    simp only [List.length_take, List.length_map, Nat.min_eq_left (show i ≤ l.length by omega), Nat.sub_self, List.set_cons_zero, List.append_assoc, List.singleton_append, List.getElem_map, conv]
theorem toLabels (l : List S117) (hb : l.length ≤ 1048576) : Ev (fun k => laws_toLabelS.f k l) (l.map conv) := by
  unfold laws_toLabelS.f
  simp only [if_pos (show (0 : Int) ≤ (l.length : Int) by omega), Int.toNat_natCast, if_pos (show l.length ≤ 5026338869833 by omega)]
  have := toLabels_l l (by omega) l.length 0 (by omega)
  simpa using this
theorem eqLab (x : S119) : laws_eqLabel.f x.f0 x.f1 x.f2.f0.f0 x.f2.f0.f1 x.f2.f1.f0 x.f2.f1.f1 x.f0 x.f1 x.f2.f0.f0 x.f2.f0.f1 x.f2.f1.f0 x.f2.f1.f1 = some true := by simp [laws_eqLabel.f, laws_eqBox.f, laws_eqPoint.f]
theorem eqLabels_l (l : List S119) (hb : l.length < 9223372036854775807) (d : Nat) : ∀ i : Nat, i + d = l.length → Ev (fun k => laws_eqLabelS.l0 k l l (i : Int)) true := by
  induction d with
  | zero =>
    intro i hi
    refine Ev.step (f := fun _ => some true) (fun k => ?_) (Ev.now _)
    simp only [laws_eqLabelS.l0]
    rw [if_neg (by omega)]
  | succ d ih =>
    intro i hi
    have h1 : i < l.length := by omega
    refine Ev.step (fun k => ?_) (ih (i + 1) (by omega))
    simp only [laws_eqLabelS.l0]
    rw [if_pos (by omega), if_pos (by omega), if_pos (by omega), rdL_at l i h1, eqLab, w1 i (by omega)]
    simp
theorem eqLabels (l : List S119) (hb : l.length < 9223372036854775807) : Ev (fun k => laws_eqLabelS.f k l l) true := by
  unfold laws_eqLabelS.f
  simp only [if_true]
  exact eqLabels_l l hb l.length 0 (by omega)
theorem szLabels_l (l : List S117) (hl : ∀ x ∈ l, x.f1.size ≤ 9223372036854775807) (hb : l.length < 9223372036854775807) (d : Nat) : ∀ (i : Nat) (n : Int), i + d = l.length → 0 ≤ n → n ≤ 1048576 → ∃ r, Ev (fun k => laws_szLabelS.l0 k l n (i : Int)) r := by
  induction d with
  | zero =>
    intro i n hi h0 h1
    refine ⟨n, Ev.step (f := fun _ => some n) (fun k => ?_) (Ev.now _)⟩
    simp only [laws_szLabelS.l0]
    rw [if_neg (by omega)]
  | succ d ih =>
    intro i n hi h0 h1
    have hl1 : i < l.length := by omega
    have hx := hl _ (List.getElem_mem hl1)
    have hw : wrap64 (n - (l[i].f1.size : Int)) = n - (l[i].f1.size : Int) := by unfold wrap64; omega
    by_cases hc : n - (l[i].f1.size : Int) < 0
    · refine ⟨-1, Ev.step (f := fun _ => some (-1)) (fun k => ?_) (Ev.now _)⟩
      simp only [laws_szLabelS.l0, laws_szLabel.f]
      rw [if_pos (by omega), if_pos (by omega), rdl_at l i hl1, hw, if_pos hc]
      rfl
    · obtain ⟨r, hr⟩ := ih (i + 1) (n - (l[i].f1.size : Int)) (by omega) (by omega) (by omega)
      refine ⟨r, Ev.step (fun k => ?_) hr⟩
      simp only [laws_szLabelS.l0, laws_szLabel.f]
      rw [if_pos (by omega), if_pos (by omega), rdl_at l i hl1, hw, if_neg hc]
      simp only [Option.bind_some]
      rw [if_neg hc, w1 i (by omega)]
theorem szLabels (l : List S117) (hl : ∀ x ∈ l, x.f1.size ≤ 9223372036854775807) (hb : l.length ≤ 9223372036854775807) : ∃ r, Ev (fun k => laws_szLabelS.f k l 1048576) r ∧ (¬ r < 0 → l.length ≤ 1048576) := by
  unfold laws_szLabelS.f
  have hw : wrap64 (1048576 - (l.length : Int)) = 1048576 - (l.length : Int) := by unfold wrap64; omega
  rw [hw]
  by_cases hc : 1048576 - (l.length : Int) < 0
  · exact ⟨-1, by simp only [if_pos hc]; exact Ev.now _, fun h => by omega⟩
  · simp only [if_neg hc]
    obtain ⟨r, hr⟩ := szLabels_l l hl (by omega) l.length 0 (1048576 - (l.length : Int)) (by omega) (by omega) (by omega)
    exact ⟨r, hr, fun _ => by omega⟩
theorem markText_l (n : Nat) : ∀ (x : Int) (b : ByteArray), 0 ≤ x → x ≤ 9223372036854775807 → x < (10 : Int) ^ n → b.size + n ≤ 1000 → ∃ r, Ev (fun k => laws_markText.l0 k x b) r := by
  induction n with
  | zero =>
    intro x b h0 hm h1 h2
    have hx : x = 0 := by simp at h1; omega
    subst hx
    refine ⟨(⟨#[109]⟩ : ByteArray) ++ b, Ev.step (f := fun _ => some ((⟨#[109]⟩ : ByteArray) ++ b)) (fun k => ?_) (Ev.now _)⟩
    simp only [laws_markText.l0]
    rw [if_neg (by omega), if_pos (by omega)]
  | succ n ih =>
    intro x b h0 hm h1 h2
    by_cases hx : x > 0
    · have hd : Int.tdiv x 10 = x / 10 := Int.tdiv_eq_ediv_of_nonneg h0
      have hlt : x / 10 < (10 : Int) ^ n := by
        rw [Int.pow_succ] at h1
        omega
      have hs : (strOfNums [(wrap64 (48 + (Int.tmod x 10))) % 256]).size = 1 := by rw [strOfNums_size]; rfl
      have hw : wrap64 (x / 10) = x / 10 := by unfold wrap64; omega
      obtain ⟨r, hr⟩ := ih (x / 10) (strOfNums [(wrap64 (48 + (Int.tmod x 10))) % 256] ++ b) (by omega) (by omega) hlt (by rw [ByteArray.size_append, hs]; omega)
      refine ⟨r, Ev.step (fun k => ?_) hr⟩
      simp only [laws_markText.l0, Option.bind_some]
      rw [if_pos hx, if_pos (by rw [hs]; omega), hd, hw]
    · have hx0 : x = 0 := by omega
      subst hx0
      refine ⟨(⟨#[109]⟩ : ByteArray) ++ b, Ev.step (f := fun _ => some ((⟨#[109]⟩ : ByteArray) ++ b)) (fun k => ?_) (Ev.now _)⟩
      simp only [laws_markText.l0]
      rw [if_neg (by omega), if_pos (by omega)]
theorem markText_f (x : Int) (h0 : 0 ≤ x) (h1 : x < 1000000000000) : ∃ r, Ev (fun k => laws_markText.f k x) r := by
  unfold laws_markText.f
  by_cases h : x ≤ 0
  · exact ⟨_, by simp only [if_pos h]; exact Ev.now _⟩
  · simp only [if_neg h]
    exact markText_l 12 x (⟨#[]⟩ : ByteArray) h0 (by omega) (by show x < 1000000000000; exact h1) (by decide)
theorem markLabels_l (d : Nat) : ∀ (i : Nat) (L : List S119) (v : Int), i + d = L.length → L.length ≤ 1048576 → 1 ≤ v → v ≤ 1 + 6 * (i : Int) → ∃ (r : Int) (M : List S119), Ev (fun k => laws_markLabelS.l0 k L v (i : Int)) (r, M) ∧ 1 ≤ r := by
  induction d with
  | zero =>
    intro i L v hi hb h0 h1
    refine ⟨v, L, Ev.step (f := fun _ => some (v, L)) (fun k => ?_) (Ev.now _), h0⟩
    simp only [laws_markLabelS.l0]
    rw [if_neg (by omega)]
  | succ d ih =>
    intro i L v hi hb h0 h1
    have a1 : wrap64 (v + 1) = v + 1 := by unfold wrap64; omega
    have a2 : wrap64 (v + 1 + 1) = v + 1 + 1 := by unfold wrap64; omega
    have a3 : wrap64 (v + 1 + 1 + 1) = v + 1 + 1 + 1 := by unfold wrap64; omega
    have a4 : wrap64 (v + 1 + 1 + 1 + 1) = v + 1 + 1 + 1 + 1 := by unfold wrap64; omega
    have a5 : wrap64 (v + 1 + 1 + 1 + 1 + 1) = v + 1 + 1 + 1 + 1 + 1 := by unfold wrap64; omega
    have a6 : wrap64 (v + 1 + 1 + 1 + 1 + 1 + 1) = v + 1 + 1 + 1 + 1 + 1 + 1 := by unfold wrap64; omega
    obtain ⟨t, ht⟩ := markText_f (v + 1) (by omega) (by omega)
    have key : ∀ (b : ByteArray), ∃ M : List S119, M.length = L.length ∧ ∀ k, laws_markText.f k (v + 1) = some b → laws_markLabelS.l0 (k + 1) L v (i : Int) = laws_markLabelS.l0 k M (v + 1 + 1 + 1 + 1 + 1 + 1) ((i + 1 : Nat) : Int) := by
      intro b
      refine ⟨?M, ?_, fun k hk => ?_⟩
      rotate_left
      rotate_left
      · simp only [laws_markLabelS.l0]
        rw [if_pos (by omega), if_pos (by omega), a1, a2, a3, a4, a5, a6, w1 i (by omega)]
        simp only [Option.bind_some, hk]
        rfl
      · simp only [List.length_set]
    obtain ⟨M, hM, hk⟩ := key t
    obtain ⟨r, M', hr, hp⟩ := ih (i + 1) M (v + 1 + 1 + 1 + 1 + 1 + 1) (by omega) (by omega) (by omega) (by omega)
    refine ⟨r, M', ?_, hp⟩
    obtain ⟨K1, g1⟩ := ht
    obtain ⟨K2, g2⟩ := hr
    refine ⟨K1 + K2 + 1, fun k hkk => ?_⟩
    obtain ⟨j, rfl⟩ : ∃ j, k = j + 1 := ⟨k - 1, by omega⟩
    exact (hk j (g1 j (by omega))).trans (g2 j (by omega))
theorem ids_l (L : List S119) (hb : L.length ≤ 1048576) (d : Nat) : ∀ (i : Nat) (a : List Int), i + d = L.length → a.length ≤ i → ∃ v : List Int, v.length ≤ 1048576 ∧ Ev (fun k => spec_NamedIds.l0 k L a (i : Int)) v ∧ Ev (fun k => impl_NamedIds.l0 k a L (L.length : Int) (i : Int)) v := by
  induction d with
  | zero =>
    intro i a hi ha
    refine ⟨a, by omega, Ev.step (f := fun _ => some a) (fun k => ?_) (Ev.now _), Ev.step (f := fun _ => some a) (fun k => ?_) (Ev.now _)⟩
    · simp only [spec_NamedIds.l0]; rw [if_neg (by omega)]
    · simp only [impl_NamedIds.l0]; rw [if_neg (by omega)]
  | succ d ih =>
    intro i a hi ha
    have h1 : i < L.length := by omega
    obtain ⟨v, hv, e1, e2⟩ := ih (i + 1) (a ++ [L[i].f0]) (by omega) (by simp; omega)
    refine ⟨v, hv, Ev.step (fun k => ?_) e1, Ev.step (fun k => ?_) e2⟩
    · simp only [spec_NamedIds.l0]
      rw [if_pos (by omega), if_pos (by omega), if_pos (by omega), rdL_at L i h1, w1 i (by omega)]
    · simp only [impl_NamedIds.l0]
      rw [if_pos (by omega), if_pos (by omega), if_pos (by omega), if_pos (by omega), rdL_at L i h1, w1 i (by omega)]
theorem main : ∀ (l0 : List (S117)), (l0.length ≤ 9223372036854775807 ∧ ∀ x ∈ l0, ((Lit.int .i64 x.f0).wf = true ∧ x.f1.size ≤ 9223372036854775807 ∧ (((Lit.int .i64 x.f2.f0.f0).wf = true ∧ (Lit.int .i64 x.f2.f0.f1).wf = true) ∧ ((Lit.int .i64 x.f2.f1.f0).wf = true ∧ (Lit.int .i64 x.f2.f1.f1).wf = true)))) → ∃ k, laws_FnExactNamedIds.f k l0 = some true := by
  intro l hl
  refine Ev.rounds (r := true) ?_
  unfold laws_FnExactNamedIds.f
  obtain ⟨r, hr, hlen⟩ := szLabels l (fun x hx => (hl.2 x hx).2.1) hl.1
  refine Ev.bind hr ?_
  by_cases hc : r < 0
  · simp only [if_pos hc]; exact Ev.now _
  · simp only [if_neg hc]
    have hb := hlen hc
    have ht := toLabels l hb
    have hm : (l.map conv).length ≤ 1048576 := by simpa using hb
    generalize l.map conv = L at ht hm
    obtain ⟨v, hv, e1, e2⟩ := ids_l L hm L.length 0 [] (by omega) (by simp)
    obtain ⟨q, M, hq, hq1⟩ := markLabels_l L.length 0 L 1 (by omega) hm (by omega) (by omega)
    have eq := eqInts v v (by omega)
    have em := markInts v (by omega)
    have eh := heldInts v.length (by omega)
    simp only [decide_true] at eq
    have f1 : Ev (fun k => spec_NamedIds.f k L) v := e1
    have f2 : Ev (fun k => impl_NamedIds.f k L) v := e2
    refine Ev.bind ht (Ev.bind f1 (Ev.bind ht (Ev.bind f2 (Ev.bind eq ?_))))
    simp only [if_true]
    refine Ev.bind ht (Ev.bind (eqLabels L (by omega)) ?_)
    simp only [if_true]
    refine Ev.bind (show Ev (fun k => laws_markLabelS.f k L 1) (q, M) from hq) ?_
    simp only [if_neg (show ¬ q < 0 by omega)]
    refine Ev.bind eq ?_
    refine Ev.step (f := fun k => (laws_markIntS.f k v 1).bind fun b => (laws_heldIntS.f k b.2 1).bind fun t => if t < 0 then some false else if t = b.1 then ((laws_toLabelS.f k l).bind fun t197 => ((impl_NamedIds.f k t197).bind fun t200 => ((laws_eqIntS.f k t200 v).bind fun t203 => (if t203 = true then ((laws_heldIntS.f k b.2 1).bind fun t204 => (if t204 < 0 then (some false) else (if t204 = b.1 then (some true) else (some false)))) else (some false))))) else some false) (fun k => by simp [laws_FnExactNamedIds.j0]) (Ev.bind em (Ev.bind eh ?_))
    simp only [if_neg (show ¬ (1 + (v.length : Int) < 0) by omega), if_true]
    refine Ev.bind ht (Ev.bind f2 (Ev.bind eq ?_))
    simp only [if_true]
    refine Ev.bind eh ?_
    simp only [if_neg (show ¬ (1 + (v.length : Int) < 0) by omega), if_true]
    exact Ev.now _
end Go.Proofs.Ytlclpggodhodiaa.Pure.FnExactNamedIds
