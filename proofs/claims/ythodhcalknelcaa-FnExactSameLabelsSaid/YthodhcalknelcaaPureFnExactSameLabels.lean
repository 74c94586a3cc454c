/- The program's SameLabels and the reference's count the same cells: both covers valid and of one shape, or nothing. No condition. -/
import Derived.Test.YthodhcalknelcaaPFnExactSameLabelsx
namespace Go.Proofs.Ythodhcalknelcaa.Pure.FnExactSameLabels
open Go Go.RowKit Go.Proofs.Ythodhcalknelcaa.PFnExactSameLabels Go.Proofs.YthodhcalknelcaaW.PrintWords Go.Proofs.YthodhcalknelcaaW.PrintLast Go.Proofs.YthodhcalknelcaaW.PrintMore Go.Proofs.YthodhcalknelcaaGeo
set_option linter.unusedVariables false
set_option linter.unusedSimpArgs false
theorem w1 (i : Nat) (h : i < 9223372036854775807) : wrap64 ((i : Int) + 1) = ((i + 1 : Nat) : Int) := by unfold wrap64; omega
theorem rd_at (l : List Int) (i : Nat) (h : i < l.length) : rd l (i : Int) = l[i] := by
  unfold rd
  rw [Int.toNat_natCast, List.getD_eq_getElem?_getD, List.getElem?_eq_getElem h]
  rfl
/-- What a valid cover is, in numbers. -/
def Cov (W H : Int) (s : ByteArray) : Prop := 1 ≤ W ∧ W ≤ 6 ∧ 1 ≤ H ∧ H ≤ 6 ∧ (s.size : Int) = W * H ∧ ∀ i : Nat, i < s.size → 97 ≤ bt s (i : Int) ∧ bt s (i : Int) ≤ 122
theorem cov_size {W H : Int} {s : ByteArray} (h : Cov W H s) : s.size ≤ 36 := by
  obtain ⟨h1, h2, h3, h4, h5, _⟩ := h
  have a : W = 1 ∨ W = 2 ∨ W = 3 ∨ W = 4 ∨ W = 5 ∨ W = 6 := by omega
  rcases a with rfl | rfl | rfl | rfl | rfl | rfl <;> omega
theorem cover_l (W H : Int) (s : ByteArray) (hs : s.size ≤ 9223372036854775806) (d : Nat) : ∀ i : Nat, i + d = s.size → ∃ r : Bool, Ev (fun k => spec_IsCover.l0 k (i : Int) W H s) r ∧ Ev (fun k => impl_IsCover.l0 k (s.size : Int) (i : Int) W H s) r ∧
    (r = true → ∀ j : Nat, i ≤ j → j < s.size → 97 ≤ bt s (j : Int) ∧ bt s (j : Int) ≤ 122) := by
  induction d with
  | zero =>
    intro i hi
    refine ⟨true, Ev.step (f := fun _ => some true) (fun k => ?_) (Ev.now _), Ev.step (f := fun _ => some true) (fun k => ?_) (Ev.now _), fun _ j h1 h2 => by omega⟩
    · simp only [spec_IsCover.l0]; rw [if_neg (by omega)]
    · simp only [impl_IsCover.l0]; rw [if_neg (by omega)]
  | succ d ih =>
    intro i hi
    have hlt : (i : Int) < (s.size : Int) := by omega
    by_cases hc : bt s (i : Int) < 97
    · refine ⟨false, Ev.step (f := fun _ => some false) (fun k => ?_) (Ev.now _), Ev.step (f := fun _ => some false) (fun k => ?_) (Ev.now _), fun h => by cases h⟩
      · simp only [spec_IsCover.l0]; rw [if_pos hlt, if_pos (by omega), if_pos hc]
      · simp only [impl_IsCover.l0]; rw [if_pos hlt, if_pos (by omega), if_pos hlt, if_pos hc]
    · by_cases hc' : bt s (i : Int) > 122
      · refine ⟨false, Ev.step (f := fun _ => some false) (fun k => ?_) (Ev.now _), Ev.step (f := fun _ => some false) (fun k => ?_) (Ev.now _), fun h => by cases h⟩
        · simp only [spec_IsCover.l0]; rw [if_pos hlt, if_pos (by omega), if_neg hc, if_pos hc']
        · simp only [impl_IsCover.l0]; rw [if_pos hlt, if_pos (by omega), if_pos hlt, if_neg hc, if_pos hc']
      · obtain ⟨r, h1, h2, h3⟩ := ih (i + 1) (by omega)
        refine ⟨r, Ev.step (fun k => ?_) h1, Ev.step (fun k => ?_) h2, fun hr j hj1 hj2 => ?_⟩
        · simp only [spec_IsCover.l0]; rw [if_pos hlt, if_pos (by omega), if_neg hc, if_neg hc', w1 i (by omega)]
        · simp only [impl_IsCover.l0]; rw [if_pos hlt, if_pos (by omega), if_pos hlt, if_neg hc, if_neg hc', w1 i (by omega)]
        · by_cases e : j = i
          · subst e; omega
          · exact h3 hr j (by omega) hj2
theorem wrap_small {a : Int} (h : -9223372036854775808 ≤ a) (h' : a ≤ 9223372036854775807) : wrap64 a = a := by unfold wrap64; omega
theorem mul_small {a b : Int} (h1 : 1 ≤ a) (h2 : a ≤ 6) (h3 : 1 ≤ b) (h4 : b ≤ 6) : 1 ≤ a * b ∧ a * b ≤ 36 ∧ b ≤ a * b := by
  have e : a = 1 ∨ a = 2 ∨ a = 3 ∨ a = 4 ∨ a = 5 ∨ a = 6 := by omega
  rcases e with rfl | rfl | rfl | rfl | rfl | rfl <;> omega
theorem cover_same (W H : Int) (s : ByteArray) (hs : s.size ≤ 9223372036854775806) : ∃ r : Bool, Ev (fun k => spec_IsCover.f k W H s) r ∧ Ev (fun k => impl_IsCover.f k W H s) r ∧ (r = true → Cov W H s) := by
  unfold spec_IsCover.f impl_IsCover.f spec_l1In.f impl_InRange.f
  have no : ∃ r : Bool, Ev (fun k => spec_IsCover.j0 k true W H s) r ∧ Ev (fun k => impl_IsCover.j0 k true W H s) r ∧ (r = true → Cov W H s) :=
    ⟨false, Ev.step (f := fun _ => some false) (fun k => by simp [spec_IsCover.j0]) (Ev.now _), Ev.step (f := fun _ => some false) (fun k => by simp [impl_IsCover.j0]) (Ev.now _), fun h => by cases h⟩
  by_cases h1 : inR W 1 6 = true
  · by_cases h2 : inR H 1 6 = true
    · simp only [Option.bind_some, h1, h2, if_true]
      have w1' : 1 ≤ W ∧ W ≤ 6 := by simpa [inR] using h1
      have w2' : 1 ≤ H ∧ H ≤ 6 := by simpa [inR] using h2
      have hm := mul_small w1'.1 w1'.2 w2'.1 w2'.2
      rw [wrap_small (a := W * H) (by omega) (by omega)]
      by_cases h3 : (s.size : Int) = W * H
      · obtain ⟨r, e1, e2, e3⟩ := cover_l W H s hs s.size 0 (by omega)
        have hb : ((s.size : Int) != W * H) = false := by simpa using h3
        rw [hb]
        refine ⟨r, Ev.step (fun k => ?_) e1, Ev.step (fun k => ?_) e2, fun hr => ⟨w1'.1, w1'.2, w2'.1, w2'.2, h3, fun i hi => e3 hr i (by omega) hi⟩⟩
        · simp [spec_IsCover.j0]
        · simp [impl_IsCover.j0]
      · have hb : ((s.size : Int) != W * H) = true := by simpa using h3
        rw [hb]
        exact no
    · simp only [Option.bind_some, h1, h2, if_true, if_false, Bool.false_eq_true]
      exact no
  · simp only [Option.bind_some, h1, if_false, Bool.false_eq_true]
    exact no
section
variable (Wa Ha : Int) (sa : ByteArray) (Wb Hb : Int) (sb : ByteArray)
theorem spec_one {ra rb g : Bool} (h1 : Ev (fun k => spec_IsCover.f k Wa Ha sa) ra) (h2 : Ev (fun k => spec_IsCover.f k Wb Hb sb) rb) (hg : g = (ra && (rb && (decide (Wa = Wb) && (Ha == Hb))))) {n i r : Int} (hi : i < (sa.size : Int))
    (h : Ev (fun k => spec_SameLabels.j1 k n i g Wa Ha sa Wb Hb sb) r) : Ev (fun k => spec_SameLabels.l0 k n i Wa Ha sa Wb Hb sb) r := by
  subst hg
  refine Ev.step (f := fun k => (spec_IsCover.f k Wa Ha sa).bind fun t107 => (if t107 = true then ((spec_IsCover.f k Wb Hb sb).bind fun t108 => (if t108 = true then (if Wa = Wb then (spec_SameLabels.j1 k n i (Ha == Hb) Wa Ha sa Wb Hb sb) else (spec_SameLabels.j1 k n i false Wa Ha sa Wb Hb sb)) else (spec_SameLabels.j1 k n i false Wa Ha sa Wb Hb sb))) else (spec_SameLabels.j1 k n i false Wa Ha sa Wb Hb sb))) (fun k => by simp only [spec_SameLabels.l0]; rw [if_pos hi]) ?_
  refine Ev.bind h1 ?_
  cases ra with
  | false => simpa using h
  | true =>
    simp only [if_true]
    refine Ev.bind h2 ?_
    cases rb with
    | false => simpa using h
    | true =>
      simp only [if_true]
      by_cases hw : Wa = Wb
      · simp only [if_pos hw]; simpa [hw] using h
      · simp only [if_neg hw]; simpa [hw] using h
theorem spec_end {n i : Int} (hi : ¬ i < (sa.size : Int)) : Ev (fun k => spec_SameLabels.l0 k n i Wa Ha sa Wb Hb sb) n := by
  refine Ev.step (f := fun k => spec_SameLabels.j1 k n i false Wa Ha sa Wb Hb sb) (fun k => by simp only [spec_SameLabels.l0]; rw [if_neg hi]) ?_
  exact Ev.step (f := fun _ => some n) (fun k => by simp [spec_SameLabels.j1]) (Ev.now n)
theorem count {ra rb : Bool} (h1 : Ev (fun k => spec_IsCover.f k Wa Ha sa) ra) (h2 : Ev (fun k => spec_IsCover.f k Wb Hb sb) rb) (hg : true = (ra && (rb && (decide (Wa = Wb) && (Ha == Hb))))) (hs : sa.size = sb.size) (hl : sa.size ≤ 1000000000) (d : Nat) :
    ∀ (i n : Nat), i + d = sa.size → n ≤ i → ∃ r : Int, Ev (fun k => spec_SameLabels.l0 k (n : Int) (i : Int) Wa Ha sa Wb Hb sb) r ∧ Ev (fun k => impl_SameLabels.l0 k (n : Int) (sa.size : Int) (i : Int) Wa Ha sa Wb Hb sb) r := by
  induction d with
  | zero =>
    intro i n hi hn
    refine ⟨n, spec_end Wa Ha sa Wb Hb sb (by omega), Ev.step (f := fun _ => some (n : Int)) (fun k => ?_) (Ev.now _)⟩
    simp only [impl_SameLabels.l0]
    rw [if_neg (by omega)]
  | succ d ih =>
    intro i n hi hn
    have hlt : (i : Int) < (sa.size : Int) := by omega
    have hlt' : (i : Int) < (sb.size : Int) := by omega
    by_cases hc : bt sa (i : Int) = bt sb (i : Int)
    · obtain ⟨r, e1, e2⟩ := ih (i + 1) (n + 1) (by omega) (by omega)
      refine ⟨r, spec_one Wa Ha sa Wb Hb sb h1 h2 hg hlt (Ev.step (fun k => ?_) e1), Ev.step (fun k => ?_) e2⟩
      · simp only [spec_SameLabels.j1]
        rw [if_pos trivial, if_pos (by omega), if_pos hlt, if_pos hlt', if_pos hc, w1 i (by omega), w1 n (by omega)]
      · simp only [impl_SameLabels.l0]
        rw [if_pos hlt, if_pos (by omega), if_pos hlt, if_pos hlt', if_pos hc, w1 i (by omega), w1 n (by omega)]
    · obtain ⟨r, e1, e2⟩ := ih (i + 1) n (by omega) (by omega)
      refine ⟨r, spec_one Wa Ha sa Wb Hb sb h1 h2 hg hlt (Ev.step (fun k => ?_) e1), Ev.step (fun k => ?_) e2⟩
      · simp only [spec_SameLabels.j1]
        rw [if_pos trivial, if_pos (by omega), if_pos hlt, if_pos hlt', if_neg hc, w1 i (by omega)]
      · simp only [impl_SameLabels.l0]
        rw [if_pos hlt, if_pos (by omega), if_pos hlt, if_pos hlt', if_neg hc, w1 i (by omega)]
theorem impl_f {ra rb g : Bool} (h1 : Ev (fun k => impl_IsCover.f k Wa Ha sa) ra) (h2 : Ev (fun k => impl_IsCover.f k Wb Hb sb) rb) (hg : g = (ra && (rb && (decide (Wa = Wb) && (Ha == Hb))))) {r : Int}
    (h : Ev (fun k => impl_SameLabels.j0 k (!g) Wa Ha sa Wb Hb sb) r) : Ev (fun k => impl_SameLabels.f k Wa Ha sa Wb Hb sb) r := by
  subst hg
  unfold impl_SameLabels.f
  refine Ev.bind h1 ?_
  cases ra with
  | false => simpa using h
  | true =>
    simp only [if_true]
    refine Ev.bind h2 ?_
    cases rb with
    | false => simpa using h
    | true =>
      simp only [if_true]
      by_cases hw : Wa = Wb
      · simp only [if_pos hw]; simpa [hw, bne] using h
      · simp only [if_neg hw]; simpa [hw] using h
theorem same (hl : sa.size ≤ 1000000000) (hl' : sb.size ≤ 1000000000) : ∃ r : Int, Ev (fun k => spec_SameLabels.f k Wa Ha sa Wb Hb sb) r ∧ Ev (fun k => impl_SameLabels.f k Wa Ha sa Wb Hb sb) r := by
  obtain ⟨ra, a1, a2, a3⟩ := cover_same Wa Ha sa (by omega)
  obtain ⟨rb, b1, b2, b3⟩ := cover_same Wb Hb sb (by omega)
  by_cases hg : (ra && (rb && (decide (Wa = Wb) && (Ha == Hb)))) = true
  · have hh := hg
    simp only [Bool.and_eq_true, decide_eq_true_eq, beq_iff_eq] at hh
    obtain ⟨ha, hb, hw, hH⟩ := hh
    have ca := a3 ha
    have cb := b3 hb
    have hs : sa.size = sb.size := by
      have x := ca.2.2.2.2.1
      have y := cb.2.2.2.2.1
      rw [hw, hH] at x
      omega
    obtain ⟨r, e1, e2⟩ := count Wa Ha sa Wb Hb sb a1 b1 hg.symm hs hl sa.size 0 0 (by omega) (by omega)
    refine ⟨r, e1, impl_f Wa Ha sa Wb Hb sb a2 b2 hg.symm (Ev.step (fun k => ?_) e2)⟩
    simp [impl_SameLabels.j0]
  · have hg' : (ra && (rb && (decide (Wa = Wb) && (Ha == Hb)))) = false := by simpa using hg
    refine ⟨0, ?_, impl_f Wa Ha sa Wb Hb sb a2 b2 hg'.symm (Ev.step (f := fun _ => some 0) (fun k => by simp [impl_SameLabels.j0]) (Ev.now _))⟩
    show Ev (fun k => spec_SameLabels.l0 k 0 0 Wa Ha sa Wb Hb sb) 0
    by_cases hi : (0 : Int) < (sa.size : Int)
    · exact spec_one Wa Ha sa Wb Hb sb a1 b1 hg'.symm hi (Ev.step (f := fun _ => some 0) (fun k => by simp [spec_SameLabels.j1]) (Ev.now _))
    · exact spec_end Wa Ha sa Wb Hb sb hi
end
theorem main : ∀ (a0_0 : Int) (a0_1 : Int) (a0_2 : ByteArray) (a1_0 : Int) (a1_1 : Int) (a1_2 : ByteArray), (Lit.int .i64 a0_0).wf = true → (Lit.int .i64 a0_1).wf = true → a0_2.size ≤ 9223372036854775807 → (Lit.int .i64 a1_0).wf = true → (Lit.int .i64 a1_1).wf = true → a1_2.size ≤ 9223372036854775807 → ∃ k, laws_FnExactSameLabels.f k a0_0 a0_1 a0_2 a1_0 a1_1 a1_2 = some true := by
  intro Wa Ha sa Wb Hb sb _ _ ha _ _ hb
  refine Ev.rounds (r := true) ?_
  unfold laws_FnExactSameLabels.f laws_szCover.f laws_toCover.f
  by_cases h1 : (sa.size : Int) ≤ 1048576
  · simp only [wrap_small (a := 1048576 - (sa.size : Int)) (by omega) (by omega), if_neg (show ¬ (1048576 - (sa.size : Int) < 0) by omega), Option.bind_some]
    by_cases h2 : (sa.size : Int) + sb.size ≤ 1048576
    · simp only [wrap_small (a := 1048576 - (sa.size : Int) - (sb.size : Int)) (by omega) (by omega), if_neg (show ¬ (1048576 - (sa.size : Int) - (sb.size : Int) < 0) by omega), Option.bind_some]
      obtain ⟨r, e1, e2⟩ := same Wa Ha sa Wb Hb sb (by omega) (by omega)
      refine Ev.bind e1 (Ev.bind e2 ?_)
      simp only [if_true]
      exact Ev.now _
    · simp only [wrap_small (a := 1048576 - (sa.size : Int) - (sb.size : Int)) (by omega) (by omega), if_pos (show 1048576 - (sa.size : Int) - (sb.size : Int) < 0 by omega), Option.bind_some, if_pos (show (-1 : Int) < 0 by omega)]
      exact Ev.now _
  · simp only [wrap_small (a := 1048576 - (sa.size : Int)) (by omega) (by omega), if_pos (show 1048576 - (sa.size : Int) < 0 by omega), Option.bind_some, if_pos (show (-1 : Int) < 0 by omega)]
    exact Ev.now _
end Go.Proofs.Ythodhcalknelcaa.Pure.FnExactSameLabels
