/- How great a corner of a feature is: the program and the reference answer the same: that it is a line or a ring, told either way (two ways to tell how segments meet agree), and the area at the corner. No condition. -/
import Derived.Test.YtdfehjfmihokpaaPFnExactSizeAtx
import Derived.Test.YtdfehjfmihokpaaMeet
namespace Go.Proofs.Ytdfehjfmihokpaa.Pure.FnExactSizeAt
open Go Go.RowKit Go.Proofs.Ytdfehjfmihokpaa.PFnExactSizeAt Go.Proofs.YtdfehjfmihokpaaW.PrintWords Go.Proofs.YtdfehjfmihokpaaW.PrintLast Go.Proofs.YtdfehjfmihokpaaW.PrintMore Go.Proofs.YtdfehjfmihokpaaGeo
set_option linter.unusedVariables false
set_option linter.unusedSimpArgs false
open Go.Proofs.YtdfehjfmihokpaaMeet
theorem w1 (i : Nat) (h : i < 9223372036854775807) : wrap64 ((i : Int) + 1) = ((i + 1 : Nat) : Int) := by unfold wrap64; omega
theorem rd_at (l : List Int) (i : Nat) (h : i < l.length) : rd l (i : Int) = l[i] := by
  unfold rd
  rw [Int.toNat_natCast, List.getD_eq_getElem?_getD, List.getElem?_eq_getElem h]
  rfl
theorem on_s (a b c d x y : Int) : spec_IsOn.f a b c d x y = some (isOnI a b c d x y) := by
  unfold spec_IsOn.f isOnI spec_IsSegment.f spec_IsPoint.f spec_l4Cross.f spec_Min.f spec_Max.f spec_l1In.f
  simp only [Option.bind_some]
  cases h1 : isSeg a b c d
  · simp
  · cases h2 : isPt x y
    · simp
    · obtain ⟨p1, p2, _⟩ := isSeg_iff.mp h1
      have e : sideI a b c d x y = cmpI (crossI a b c d x y) 0 := by unfold sideI; rw [p1, p2, h2]; simp
      have e' : decide (cmpI (crossI a b c d x y) 0 = 0) = decide (crossI a b c d x y = 0) := decide_eq_decide.mpr (by rw [cmp_zero])
      rw [e, e']
      by_cases h3 : crossI a b c d x y = 0
      · simp only [if_true, if_pos h3]
        cases h4 : inR x (mn a c) (mx a c) <;> simp [h3]
      · simp only [if_true, if_neg h3, decide_eq_false h3]
        simp
def eqP (p q : S82) : Bool := decide (p.f0 = q.f0) && decide (p.f1 = q.f1)
theorem nep (p q : S82) : (!((p.f0) == (q.f0)) || (!((p.f1) == (q.f1)))) = !eqP p q := by
  unfold eqP
  by_cases h : p.f0 = q.f0 <;> by_cases h' : p.f1 = q.f1 <;> simp [h, h']
theorem rdPt (l : List S82) (i : Nat) (h : i < l.length) : rd_T82 l (i : Int) = l[i] := by
  unfold rd_T82
  rw [Int.toNat_natCast, List.getD_eq_getElem?_getD, List.getElem?_eq_getElem h]
  rfl
theorem w1' (i : Nat) (h : i < 9223372036854775807) : wrap64 ((i : Int) + 1) = ((i + 1 : Nat) : Int) := by unfold wrap64; omega
theorem all_if (x : Bool) (L : List S82) (y : S82) (q : S82 → Bool) : (if x = true then L ++ [y] else L).all q = (L.all q && (!x || q y)) := by cases x <;> simp
theorem len_if (x : Bool) (L : List S82) (y : S82) : (if x = true then L ++ [y] else L).length = L.length + (if x = true then 1 else 0) := by cases x <;> simp
section
variable (a b c d e f g h : Int)
theorem sh_l1 (xs es : List S82) (i : Nat) (hi : i < es.length) (hes : es.length ≤ 4) (hx : xs.length ≤ 4) (m : Nat) : ∀ (j : Nat) (on : Bool), j + m = xs.length → ∀ r,
    Ev (fun k => spec_l5Shared.l0 k (if on && (xs.drop j).all (fun p => !eqP p es[i]) then xs ++ [es[i]] else xs) es ((i + 1 : Nat) : Int) a b c d e f g h) r → Ev (fun k => spec_l5Shared.l1 k xs es (i : Int) on (j : Int) a b c d e f g h) r := by
  induction m with
  | zero =>
    intro j on hj r hr
    rw [List.drop_of_length_le (by omega)] at hr
    refine Ev.step (fun k => ?_) hr
    simp only [spec_l5Shared.l1]
    rw [if_neg (by omega)]
    simp only [List.all_nil, Bool.and_true]
    cases on
    · simp only [Bool.false_eq_true, if_false, w1' i (by omega)]
    · simp only [if_true]
      rw [if_pos (by omega), if_pos (by omega), if_pos (by omega), w1' i (by omega), rdPt es i hi]
  | succ m ih =>
    intro j on hj r hr
    have hj1 : j < xs.length := by omega
    have hd := List.drop_eq_getElem_cons hj1
    rw [hd, List.all_cons] at hr
    refine Ev.step (fun k => ?_) (ih (j + 1) (on && !eqP xs[j] es[i]) (by omega) r (by rw [Bool.and_assoc]; exact hr))
    simp only [spec_l5Shared.l1]
    rw [if_pos (by omega)]
    cases on
    · simp only [Bool.false_eq_true, if_false, w1' j (by omega), Bool.false_and]
    · simp only [if_true]
      rw [if_pos (by omega), if_pos (by omega), if_pos (by omega), w1' j (by omega), rdPt es i hi, rdPt xs j hj1, nep, Bool.true_and]
/-- Which segment an end is held against. -/
def onI (i : Nat) (p : S82) : Bool := if i < 2 then isOnI e f g h p.f0 p.f1 else isOnI a b c d p.f0 p.f1
theorem sh_l0 (xs es : List S82) (i : Nat) (hi : i < es.length) (hes : es.length = 4) (hx : xs.length ≤ 4) (r : Int)
    (hr : Ev (fun k => spec_l5Shared.l0 k (if onI a b c d e f g h i es[i] && xs.all (fun p => !eqP p es[i]) then xs ++ [es[i]] else xs) es ((i + 1 : Nat) : Int) a b c d e f g h) r) : Ev (fun k => spec_l5Shared.l0 k xs es (i : Int) a b c d e f g h) r := by
  have go : ∀ on : Bool, on = onI a b c d e f g h i es[i] → Ev (fun k => spec_l5Shared.j1 k xs es (i : Int) on a b c d e f g h) r := by
    intro on hon
    refine Ev.step (f := fun k => spec_l5Shared.l1 k xs es (i : Int) on ((0 : Nat) : Int) a b c d e f g h) (fun k => by rw [spec_l5Shared.j1]; rfl) (sh_l1 a b c d e f g h xs es i hi (by omega) hx xs.length 0 on (by omega) r ?_)
    rw [hon, List.drop_zero]
    exact hr
  have step : ∀ k, spec_l5Shared.l0 (k + 1) xs es (i : Int) a b c d e f g h = spec_l5Shared.j1 k xs es (i : Int) (onI a b c d e f g h i es[i]) a b c d e f g h := by
    intro k
    simp only [spec_l5Shared.l0]
    rw [if_pos (by omega)]
    by_cases h2 : i < 2
    · rw [if_pos (by omega), if_pos (by omega), if_pos (by omega), rdPt es i hi, on_s, onI, if_pos h2]
      simp only [Option.bind_some]
      cases isOnI e f g h es[i].f0 es[i].f1
      · rw [if_neg (by simp), if_neg (by omega)]
      · rw [if_pos rfl]
    · rw [if_neg (by omega), if_pos (by omega), if_pos (by omega), if_pos (by omega), rdPt es i hi, on_s, onI, if_neg h2]
      simp only [Option.bind_some]
  exact Ev.step step (go _ rfl)
theorem share_s : Ev (fun k => spec_l5Shared.f k a b c d e f g h) (shareI a b c d e f g h) := by
  unfold spec_l5Shared.f
  generalize hes : ([(⟨a, b⟩ : S82), ⟨c, d⟩, ⟨e, f⟩, ⟨g, h⟩] : List S82) = es
  have h4 : es.length = 4 := by subst hes; rfl
  have e0 : es[0]'(by omega) = ⟨a, b⟩ := by subst hes; rfl
  have e1 : es[1]'(by omega) = ⟨c, d⟩ := by subst hes; rfl
  have e2 : es[2]'(by omega) = ⟨e, f⟩ := by subst hes; rfl
  have e3 : es[3]'(by omega) = ⟨g, h⟩ := by subst hes; rfl
  refine sh_l0 a b c d e f g h [] es 0 (by omega) h4 (by simp) _ ?_
  refine sh_l0 a b c d e f g h _ es 1 (by omega) h4 (by split <;> simp) _ ?_
  refine sh_l0 a b c d e f g h _ es 2 (by omega) h4 (by split <;> split <;> simp) _ ?_
  refine sh_l0 a b c d e f g h _ es 3 (by omega) h4 (by split <;> split <;> split <;> simp) _ ?_
  rw [e0, e1, e2, e3]
  have q0 : onI a b c d e f g h 0 ⟨a, b⟩ = isOnI e f g h a b := rfl
  have q1 : onI a b c d e f g h 1 ⟨c, d⟩ = isOnI e f g h c d := rfl
  have q2 : onI a b c d e f g h 2 ⟨e, f⟩ = isOnI a b c d e f := rfl
  have q3 : onI a b c d e f g h 3 ⟨g, h⟩ = isOnI a b c d g h := rfl
  rw [q0, q1, q2, q3]
  unfold shareI
  generalize isOnI e f g h a b = o0
  generalize isOnI e f g h c d = o1
  generalize isOnI a b c d e f = o2
  generalize isOnI a b c d g h = o3
  refine Ev.step (f := fun _ => some _) (fun k => ?_) (Ev.now _)
  simp only [spec_l5Shared.l0]
  rw [if_neg (by omega)]
  congr 1
  have E : ∀ x y x' y' : Int, eqP ⟨x, y⟩ ⟨x', y'⟩ = (decide (x = x') && decide (y = y')) := fun _ _ _ _ => rfl
  generalize hA : (decide (a = c) && decide (b = d)) = eab
  generalize hB : (decide (a = e) && decide (b = f)) = eac
  generalize hC : (decide (c = e) && decide (d = f)) = ebc
  generalize hD : (decide (a = g) && decide (b = h)) = ead
  generalize hE : (decide (c = g) && decide (d = h)) = ebd
  generalize hF : (decide (e = g) && decide (f = h)) = ecd
  simp only [all_if, len_if, List.all_nil, List.length_nil, E, hA, hB, hC, hD, hE, hF]
  have n1 : (o1 && (true && (!(o0 && true) || !eab))) = (o1 && !(o0 && eab)) := by cases o0 <;> cases eab <;> rfl
  rw [n1]
  generalize (o1 && !(o0 && eab)) = p1
  have n2 : (o2 && (true && (!(o0 && true) || !eac) && (!p1 || !ebc))) = (o2 && !(o0 && eac) && !(p1 && ebc)) := by cases o0 <;> cases eac <;> cases p1 <;> cases ebc <;> cases o2 <;> rfl
  rw [n2]
  generalize (o2 && !(o0 && eac) && !(p1 && ebc)) = p2
  have n3 : (o3 && (true && (!(o0 && true) || !ead) && (!p1 || !ebd) && (!p2 || !ecd))) = (o3 && !(o0 && ead) && !(p1 && ebd) && !(p2 && ecd)) := by cases o0 <;> cases ead <;> cases p1 <;> cases ebd <;> cases p2 <;> cases ecd <;> cases o3 <;> rfl
  rw [n3]
  generalize (o3 && !(o0 && ead) && !(p1 && ebd) && !(p2 && ecd)) = p3
  cases o0 <;> cases p1 <;> cases p2 <;> cases p3 <;> rfl
end
theorem wrap_sd (x y : Int) (hx : -1 ≤ x ∧ x ≤ 1) (hy : -1 ≤ y ∧ y ≤ 1) : wrap64 (x * y) = x * y := by
  have : x = -1 ∨ x = 0 ∨ x = 1 := by omega
  rcases this with rfl | rfl | rfl <;> unfold wrap64 <;> omega
theorem sd_bd (a b c d e f : Int) : -1 ≤ sideI a b c d e f ∧ sideI a b c d e f ≤ 1 := by
  unfold sideI cmpI; (repeat' split) <;> omega
theorem how_s (a b c d e f g h : Int) : Ev (fun k => spec_HowMeet.f k a b c d e f g h) (howS a b c d e f g h) := by
  unfold spec_HowMeet.f howS spec_IsSegment.f
  simp only [Option.bind_some]
  have dead : Ev (fun k => spec_HowMeet.j0 k true a b c d e f g h) 0 := Ev.step (f := fun _ => some 0) (fun k => by simp [spec_HowMeet.j0]) (Ev.now _)
  cases h1 : isSeg a b c d
  · simp only [Bool.false_eq_true, if_false, true_or, if_true]; exact dead
  · cases h2 : isSeg e f g h
    · simp only [if_true, Bool.not_false, or_true]; exact dead
    · simp only [if_true, Bool.not_true, Bool.true_eq_false, or_self, if_false]
      have far : Ev (fun k => spec_HowMeet.j1 k true a b c d e f g h) 0 := Ev.step (f := fun _ => some 0) (fun k => by simp [spec_HowMeet.j1]) (Ev.now _)
      have near : Ev (fun k => spec_HowMeet.j1 k false a b c d e f g h) (if shareI a b c d e f g h = 0 then (if sideI a b c d e f * sideI a b c d g h < 0 ∧ sideI e f g h a b * sideI e f g h c d < 0 then 2 else 0) else if shareI a b c d e f g h = 1 then 1 else 3) := by
        refine Ev.step (f := fun k => (spec_l5Shared.f k a b c d e f g h).bind fun t158 => if t158 = 0 then (if wrap64 (sideI a b c d e f * sideI a b c d g h) < 0 then (if wrap64 (sideI e f g h a b * sideI e f g h c d) < 0 then some 2 else some 0) else some 0) else if t158 = 1 then some 1 else some 3) (fun k => by simp [spec_HowMeet.j1, spec_SideOf.f]) (Ev.bind (share_s a b c d e f g h) ?_)
        rw [wrap_sd _ _ (sd_bd _ _ _ _ _ _) (sd_bd _ _ _ _ _ _), wrap_sd _ _ (sd_bd _ _ _ _ _ _) (sd_bd _ _ _ _ _ _)]
        generalize sideI a b c d e f * sideI a b c d g h = u
        generalize sideI e f g h a b * sideI e f g h c d = v
        by_cases z : shareI a b c d e f g h = 0
        · simp only [if_pos z]
          by_cases zu : u < 0
          · by_cases zv : v < 0
            · simp only [if_pos zu, if_pos zv, if_pos (show u < 0 ∧ v < 0 from ⟨zu, zv⟩)]; exact Ev.now _
            · simp only [if_pos zu, if_neg zv, if_neg (show ¬ (u < 0 ∧ v < 0) from fun q => zv q.2)]; exact Ev.now _
          · simp only [if_neg zu, if_neg (show ¬ (u < 0 ∧ v < 0) from fun q => zu q.1)]; exact Ev.now _
        · simp only [if_neg z]
          split <;> exact Ev.now _
      have step : ∀ k, spec_HowMeet.j0 (k + 1) false a b c d e f g h = if mx a c < mn e g then spec_HowMeet.j1 k true a b c d e f g h else if mx e g < mn a c then spec_HowMeet.j1 k true a b c d e f g h else if mx b d < mn f h then spec_HowMeet.j1 k true a b c d e f g h else spec_HowMeet.j1 k (decide (mx f h < mn b d)) a b c d e f g h := fun k => by
        simp [spec_HowMeet.j0, spec_Max.f, spec_Min.f]
      refine Ev.step step ?_
      by_cases z1 : mx a c < mn e g
      · simp only [if_pos z1, if_pos (show mx a c < mn e g ∨ mx e g < mn a c ∨ mx b d < mn f h ∨ mx f h < mn b d from .inl z1)]; exact far
      · by_cases z2 : mx e g < mn a c
        · simp only [if_neg z1, if_pos z2, if_pos (show mx a c < mn e g ∨ mx e g < mn a c ∨ mx b d < mn f h ∨ mx f h < mn b d from .inr (.inl z2))]; exact far
        · by_cases z3 : mx b d < mn f h
          · simp only [if_neg z1, if_neg z2, if_pos z3, if_pos (show mx a c < mn e g ∨ mx e g < mn a c ∨ mx b d < mn f h ∨ mx f h < mn b d from .inr (.inr (.inl z3)))]; exact far
          · by_cases z4 : mx f h < mn b d
            · simp only [if_neg z1, if_neg z2, if_neg z3, decide_eq_true z4, if_pos (show mx a c < mn e g ∨ mx e g < mn a c ∨ mx b d < mn f h ∨ mx f h < mn b d from .inr (.inr (.inr z4)))]; exact far
            · simp only [if_neg z1, if_neg z2, if_neg z3, decide_eq_false z4, if_neg (show ¬ (mx a c < mn e g ∨ mx e g < mn a c ∨ mx b d < mn f h ∨ mx f h < mn b d) by omega)]; exact near
theorem before_key {x y x' y' : Int} (h : isPt x y = true) (h' : isPt x' y' = true) : beforeI x y x' y' = decide (kyI x y < kyI x' y') := by
  rw [isPt_iff] at h h'
  unfold beforeI kyI
  rw [Bool.eq_iff_iff]; simp; omega
theorem j3_i (a b c d : Int) (h : isPt a b = true) (h' : isPt c d = true) : Ev (fun k => impl_HowMeet.j3 k a b c d) (if kyI c d < kyI a b then 0 else if kyI a b = kyI c d then 1 else 3) := by
  refine Ev.step (f := fun _ => some (if kyI c d < kyI a b then 0 else if kyI a b = kyI c d then 1 else 3)) (fun k => ?_) (Ev.now _)
  simp only [impl_HowMeet.j3, impl_BeforePoint.f, before_key h' h, Option.bind_some, decide_eq_true_eq]
  have e : (a == c && b == d) = decide (kyI a b = kyI c d) := by
    rw [← ky_inj h h']
    rw [Bool.eq_iff_iff]; simp
  rw [e]
  by_cases z : kyI c d < kyI a b
  · rw [if_pos z, if_pos z]
  · rw [if_neg z, if_neg z]
    by_cases z' : kyI a b = kyI c d
    · simp [z']
    · simp [z']
theorem j2_i (e f g h a b c d : Int) (h1 : isPt g h = true) (h2 : isPt a b = true) (h3 : isPt c d = true) : Ev (fun k => impl_HowMeet.j2 k e f g h a b c d) (if mn (kyI c d) (kyI g h) < kyI a b then 0 else if kyI a b = mn (kyI c d) (kyI g h) then 1 else 3) := by
  refine Ev.step (f := fun k => if kyI g h < kyI c d then impl_HowMeet.j3 k a b g h else impl_HowMeet.j3 k a b c d) (fun k => ?_) ?_
  · simp only [impl_HowMeet.j2, impl_BeforePoint.f, before_key h1 h3, Option.bind_some, decide_eq_true_eq]
  · unfold mn
    by_cases z : kyI g h < kyI c d
    · simp only [if_pos z]; exact j3_i a b g h h2 h1
    · simp only [if_neg z]; exact j3_i a b c d h2 h3
theorem fwd_i (a b c d : Int) (h : isPt a b = true) (h' : isPt c d = true) : ∃ x y u v, impl_forward.f a b c d = some (x, y, u, v) ∧ isPt x y = true ∧ isPt u v = true ∧ kyI x y = mn (kyI a b) (kyI c d) ∧ kyI u v = mx (kyI a b) (kyI c d) := by
  unfold impl_forward.f impl_BeforePoint.f impl_TurnSegment.f
  simp only [before_key h' h, Option.bind_some, decide_eq_true_eq]
  by_cases z : kyI c d < kyI a b
  · exact ⟨c, d, a, b, by rw [if_pos z], h', h, by unfold mn; rw [if_pos z], by unfold mx; rw [if_neg (by omega)]⟩
  · exact ⟨a, b, c, d, by rw [if_neg z], h, h', by unfold mn; rw [if_neg z], by unfold mx; split <;> omega⟩
theorem how_i (a b c d e f g h : Int) : Ev (fun k => impl_HowMeet.f k a b c d e f g h) (howS a b c d e f g h) := by
  rw [← how_eq]
  unfold impl_HowMeet.f howP impl_IsSegment.f
  simp only [Option.bind_some]
  have dead : Ev (fun k => impl_HowMeet.j0 k true a b c d e f g h) 0 := Ev.step (f := fun _ => some 0) (fun k => by simp [impl_HowMeet.j0]) (Ev.now _)
  cases h1 : isSeg a b c d
  · simp only [Bool.false_eq_true, if_false, true_or, if_true]; exact dead
  · cases h2 : isSeg e f g h
    · simp only [if_true, Bool.not_false, or_true]; exact dead
    · simp only [if_true, Bool.not_true, Bool.true_eq_false, or_self, if_false]
      obtain ⟨ha, hc, _⟩ := isSeg_iff.mp h1
      obtain ⟨he, hg, _⟩ := isSeg_iff.mp h2
      have j4t : Ev (fun k => impl_HowMeet.j4 k true a b c d e f g h) 2 := Ev.step (f := fun _ => some 2) (fun k => by simp [impl_HowMeet.j4]) (Ev.now _)
      have j4f : Ev (fun k => impl_HowMeet.j4 k false a b c d e f g h) (if isOnI a b c d e f || isOnI a b c d g h || isOnI e f g h a b || isOnI e f g h c d then 1 else 0) := by
        refine Ev.step (f := fun _ => some (if isOnI a b c d e f || isOnI a b c d g h || isOnI e f g h a b || isOnI e f g h c d then 1 else 0)) (fun k => ?_) (Ev.now _)
        simp only [impl_HowMeet.j4, impl_IsOn.f, Option.bind_some, Bool.false_eq_true, if_false]
        cases isOnI a b c d e f <;> cases isOnI a b c d g h <;> cases isOnI e f g h a b <;> cases isOnI e f g h c d <;> rfl
      by_cases hcol : sideI a b c d e f = 0 ∧ sideI a b c d g h = 0
      · rw [if_pos hcol]
        obtain ⟨x, y, u, v, f1, p1, p2, k1, k2⟩ := fwd_i a b c d ha hc
        obtain ⟨x', y', u', v', f2, p1', p2', k1', k2'⟩ := fwd_i e f g h he hg
        refine Ev.step (f := fun k => impl_HowMeet.j1 k (sideI a b c d e f) (sideI a b c d g h) true a b c d e f g h) (fun k => ?_) ?_
        · simp [impl_HowMeet.j0, impl_SideOf.f, hcol.1, hcol.2]
        · refine Ev.step (f := fun k => if kyI x y < kyI x' y' then impl_HowMeet.j2 k x' y' u' v' x' y' u v else impl_HowMeet.j2 k x' y' u' v' x y u v) (fun k => ?_) ?_
          · simp only [impl_HowMeet.j1, f1, f2, impl_BeforePoint.f, Option.bind_some, before_key p1 p1', decide_eq_true_eq, if_true]
          · rw [← k1, ← k2, ← k1', ← k2']
            by_cases z : kyI x y < kyI x' y'
            · simp only [if_pos z]
              have e : mx (kyI x y) (kyI x' y') = kyI x' y' := by unfold mx; rw [if_pos z]
              rw [e]
              exact j2_i x' y' u' v' x' y' u v p2' p1' p2
            · simp only [if_neg z]
              have e : mx (kyI x y) (kyI x' y') = kyI x y := by unfold mx; rw [if_neg z]
              rw [e]
              exact j2_i x' y' u' v' x y u v p2' p1 p2
      · rw [if_neg hcol]
        refine Ev.step (f := fun k => impl_HowMeet.j1 k (sideI a b c d e f) (sideI a b c d g h) false a b c d e f g h) (fun k => ?_) ?_
        · simp only [impl_HowMeet.j0, impl_SideOf.f, Option.bind_some, Bool.false_eq_true, if_false]
          by_cases z : sideI a b c d e f = 0
          · have z' : ¬ sideI a b c d g h = 0 := fun q => hcol ⟨z, q⟩
            have z'' : (sideI a b c d g h == 0) = false := by simp [z']
            rw [if_pos z, z'']
          · rw [if_neg z]
        · have w1 := wrap_sd _ _ (sd_bd a b c d e f) (sd_bd a b c d g h)
          have w2 := wrap_sd _ _ (sd_bd e f g h a b) (sd_bd e f g h c d)
          by_cases zu : sideI a b c d e f * sideI a b c d g h < 0
          · by_cases zv : sideI e f g h a b * sideI e f g h c d < 0
            · rw [if_pos ⟨zu, zv⟩]
              refine Ev.step (fun k => ?_) j4t
              simp [impl_HowMeet.j1, impl_SideOf.f, w1, w2, zu, zv]
            · rw [if_neg (fun q => zv q.2)]
              refine Ev.step (fun k => ?_) j4f
              simp [impl_HowMeet.j1, impl_SideOf.f, w1, w2, zu, zv]
          · rw [if_neg (fun q => zu q.1)]
            refine Ev.step (fun k => ?_) j4f
            simp [impl_HowMeet.j1, impl_SideOf.f, w1, zu]
/-- A line's points, one behind the other: each a point, none like the one ahead of it. -/
def chkL : Option S82 → List S82 → Bool
  | _, [] => true
  | o, p :: r => isPt p.f0 p.f1 && ((match o with | none => true | some q => !eqP q p) && chkL (some p) r)
theorem chkL_cons (o : Option S82) (p : S82) (r : List S82) : chkL o (p :: r) = (isPt p.f0 p.f1 && ((match o with | none => true | some q => !eqP q p) && chkL (some p) r)) := by cases o <;> rfl
def lnB (l : List S82) : Bool := inR (l.length : Int) 2 10 && chkL none l
def prevL (l : List S82) (i : Nat) : Option S82 := if i = 0 then none else some (l.getD (i - 1) z82)
theorem prevL_succ (l : List S82) (i : Nat) (h : i < l.length) : prevL l (i + 1) = some l[i] := by
  unfold prevL
  rw [if_neg (by omega), Nat.add_sub_cancel, List.getD_eq_getElem?_getD, List.getElem?_eq_getElem h]; rfl
theorem w1m (i : Nat) (h : 0 < i) (h' : i < 9223372036854775807) : wrap64 ((i : Int) - 1) = ((i - 1 : Nat) : Int) := by unfold wrap64; omega
theorem isLine_sl (l : List S82) (hl : l.length < 9223372036854775807) (d : Nat) : ∀ i : Nat, i + d = l.length → Ev (fun k => spec_IsLine.l0 k l (i : Int)) (chkL (prevL l i) (l.drop i) && inR (l.length : Int) 2 10) := by
  induction d with
  | zero =>
    intro i hi
    rw [List.drop_of_length_le (by omega)]
    refine Ev.step (f := fun _ => some _) (fun k => ?_) (Ev.now _)
    simp only [spec_IsLine.l0, spec_l1In.f]
    rw [if_neg (by omega)]
    simp [chkL]
  | succ d ih =>
    intro i hi
    have h1 : i < l.length := by omega
    have hd := List.drop_eq_getElem_cons h1
    rw [hd, chkL_cons]
    cases hp : isPt l[i].f0 l[i].f1
    · refine Ev.step (f := fun _ => some false) (fun k => ?_) (Ev.now _)
      simp only [spec_IsLine.l0, spec_IsPoint.f, Option.bind_some]
      rw [if_pos (by omega), if_pos (by omega), rdPt l i h1, hp]
      simp
    · have ih' := ih (i + 1) (by omega)
      rw [prevL_succ l i h1] at ih'
      by_cases h0 : i = 0
      · subst h0
        refine Ev.step (fun k => ?_) ih'
        simp only [spec_IsLine.l0, spec_IsPoint.f, Option.bind_some]
        rw [if_pos (by omega), if_pos (by omega), rdPt l 0 h1, hp, if_pos rfl, if_neg (by omega), w1' 0 (by omega)]
      · have hi1 : i - 1 < l.length := by omega
        have eP : prevL l i = some l[i - 1] := by unfold prevL; rw [if_neg h0, List.getD_eq_getElem?_getD, List.getElem?_eq_getElem hi1]; rfl
        rw [eP]
        dsimp only
        have eq : (((l[i - 1]).f0) == (l[i].f0) && (((l[i - 1]).f1) == (l[i].f1))) = eqP l[i - 1] l[i] := by
          unfold eqP; rw [Bool.eq_iff_iff]; simp
        cases he : eqP l[i - 1] l[i]
        · refine Ev.step (fun k => ?_) ih'
          simp only [spec_IsLine.l0, spec_IsPoint.f, Option.bind_some]
          rw [if_pos (by omega), if_pos (by omega), rdPt l i h1, hp, if_pos rfl, if_pos (by omega), w1m i (by omega) (by omega), if_pos (by omega), if_pos (by omega), rdPt l (i - 1) hi1, eq, he, w1' i (by omega)]
          simp
        · refine Ev.step (f := fun _ => some false) (fun k => ?_) (Ev.now _)
          simp only [spec_IsLine.l0, spec_IsPoint.f, Option.bind_some]
          rw [if_pos (by omega), if_pos (by omega), rdPt l i h1, hp, if_pos rfl, if_pos (by omega), w1m i (by omega) (by omega), if_pos (by omega), if_pos (by omega), rdPt l (i - 1) hi1, eq, he]
          simp
theorem isLine_s (l : List S82) (hl : l.length < 9223372036854775807) : Ev (fun k => spec_IsLine.f k l) (lnB l) := by
  unfold spec_IsLine.f lnB
  rw [Bool.and_comm]
  exact isLine_sl l hl l.length 0 (by omega)
theorem isLine_il (l : List S82) (hl : l.length < 9223372036854775807) (d : Nat) : ∀ i : Nat, i + d = l.length → Ev (fun k => impl_IsLine.l0 k l l (l.length : Int) (i : Int)) (chkL (prevL l i) (l.drop i)) := by
  induction d with
  | zero =>
    intro i hi
    rw [List.drop_of_length_le (by omega)]
    refine Ev.step (f := fun _ => some _) (fun k => ?_) (Ev.now _)
    simp only [impl_IsLine.l0]
    rw [if_neg (by omega)]
    simp [chkL]
  | succ d ih =>
    intro i hi
    have h1 : i < l.length := by omega
    have hd := List.drop_eq_getElem_cons h1
    rw [hd, chkL_cons]
    cases hp : isPt l[i].f0 l[i].f1
    · refine Ev.step (f := fun _ => some false) (fun k => ?_) (Ev.now _)
      simp only [impl_IsLine.l0, impl_IsPoint.f, Option.bind_some]
      rw [if_pos (by omega), if_pos (by omega), if_pos (by omega), rdPt l i h1, hp]
      simp
    · have ih' := ih (i + 1) (by omega)
      rw [prevL_succ l i h1] at ih'
      by_cases h0 : i = 0
      · subst h0
        refine Ev.step (fun k => ?_) ih'
        simp only [impl_IsLine.l0, impl_IsPoint.f, Option.bind_some]
        rw [if_pos (by omega), if_pos (by omega), if_pos (by omega), rdPt l 0 h1, hp, if_pos rfl, if_neg (by omega), w1' 0 (by omega)]
      · have hi1 : i - 1 < l.length := by omega
        have eP : prevL l i = some l[i - 1] := by unfold prevL; rw [if_neg h0, List.getD_eq_getElem?_getD, List.getElem?_eq_getElem hi1]; rfl
        rw [eP]
        dsimp only
        have eq : (((l[i]).f0) == (l[i - 1].f0) && (((l[i]).f1) == (l[i - 1].f1))) = eqP l[i - 1] l[i] := by
          unfold eqP; rw [Bool.eq_iff_iff]; simp; omega
        cases he : eqP l[i - 1] l[i]
        · refine Ev.step (fun k => ?_) ih'
          simp only [impl_IsLine.l0, impl_IsPoint.f, Option.bind_some]
          rw [if_pos (by omega), if_pos (by omega), if_pos (by omega), rdPt l i h1, hp, if_pos rfl, if_pos (by omega), w1m i (by omega) (by omega), if_pos (by omega), if_pos (by omega), rdPt l (i - 1) hi1, eq, he, w1' i (by omega)]
          simp
        · refine Ev.step (f := fun _ => some false) (fun k => ?_) (Ev.now _)
          simp only [impl_IsLine.l0, impl_IsPoint.f, Option.bind_some]
          rw [if_pos (by omega), if_pos (by omega), if_pos (by omega), rdPt l i h1, hp, if_pos rfl, if_pos (by omega), w1m i (by omega) (by omega), if_pos (by omega), if_pos (by omega), rdPt l (i - 1) hi1, eq, he]
          simp
theorem isLine_i (l : List S82) (hl : l.length < 9223372036854775807) : Ev (fun k => impl_IsLine.f k l) (lnB l) := by
  unfold impl_IsLine.f lnB
  have dead : Ev (fun k => impl_IsLine.j0 k l true) false := Ev.step (f := fun _ => some false) (fun k => by simp [impl_IsLine.j0]) (Ev.now _)
  by_cases h2 : (l.length : Int) < 2
  · simp only [if_pos h2]
    have : inR (l.length : Int) 2 10 = false := by unfold inR; simp; omega
    rw [this]; exact dead
  · simp only [if_neg h2]
    by_cases h10 : (l.length : Int) > 10
    · have : inR (l.length : Int) 2 10 = false := by unfold inR; simp; omega
      rw [this, decide_eq_true h10]; exact dead
    · have : inR (l.length : Int) 2 10 = true := by unfold inR; simp; omega
      rw [this, decide_eq_false h10]
      exact Ev.step (fun k => by simp [impl_IsLine.j0]) (isLine_il l hl l.length 0 (by omega))
theorem rdSg (l : List S85) (i : Nat) (h : i < l.length) : rd_T85 l (i : Int) = l.getD i z85 := by
  unfold rd_T85
  rw [Int.toNat_natCast]
def howL (p q : S85) : Int := howS p.f0.f0 p.f0.f1 p.f1.f0 p.f1.f1 q.f0.f0 q.f0.f1 q.f1.f0 q.f1.f1
def segL (p : S85) : Bool := isSeg p.f0.f0 p.f0.f1 p.f1.f0 p.f1.f1
def wantR (n i k : Nat) : Int := if k + 1 = i ∨ (k = 0 ∧ i + 1 = n) then 1 else 0
def inRow (s : List S85) (i : Nat) (k : Nat) : Bool := decide (howL (s.getD i z85) (s.getD k z85) = wantR s.length i k)
def ringS (s : List S85) (i d : Nat) : Bool := (List.range' i d).all fun i => segL (s.getD i z85) && (List.range' 0 i).all (inRow s i)
/-- The segments around. -/
def arR (l : List S82) : List S85 := (List.range l.length).map fun i => (⟨l.getD i z82, l.getD ((i + 1) % l.length) z82⟩ : S85)
def rgB (l : List S82) : Bool := inR (l.length : Int) 3 10 && ringS (arR l) 0 l.length
theorem arR_len (l : List S82) : (arR l).length = l.length := by simp [arR]
theorem arR_take (l : List S82) (i : Nat) (h : i < l.length) : (arR l).take (i + 1) = (arR l).take i ++ [(⟨l.getD i z82, l.getD ((i + 1) % l.length) z82⟩ : S85)] := by
  rw [List.take_succ_eq_append_getElem (by rw [arR_len]; exact h)]
  simp [arR]
theorem tmod_nat (a n : Nat) : Int.tmod (a : Int) (n : Int) = ((a % n : Nat) : Int) := by rw [Int.ofNat_tmod]
theorem rdPd (l : List S82) (i : Nat) : rd_T82 l (i : Int) = l.getD i z82 := by
  unfold rd_T82
  rw [Int.toNat_natCast]
theorem around_sl (l : List S82) (hl : l.length < 1000) (d : Nat) : ∀ i : Nat, i + d = l.length → Ev (fun k => spec_l7Segments.l0 k l ((arR l).take i) (i : Int)) (arR l) := by
  induction d with
  | zero =>
    intro i hi
    rw [List.take_of_length_le (by rw [arR_len]; omega)]
    refine Ev.step (f := fun _ => some _) (fun k => ?_) (Ev.now _)
    simp only [spec_l7Segments.l0]
    rw [if_neg (by omega)]
  | succ d ih =>
    intro i hi
    have h1 : i < l.length := by omega
    have hm : (i + 1) % l.length < l.length := Nat.mod_lt _ (by omega)
    refine Ev.step (fun k => ?_) (ih (i + 1) (by omega))
    have hlen : ((arR l).take i).length < 4398046511104 := by rw [List.length_take, arR_len]; omega
    simp only [spec_l7Segments.l0]
    rw [if_pos (by omega), if_pos (by omega), if_neg (by omega), w1' i (by omega), tmod_nat, if_pos (by omega), if_pos (by omega), if_pos hlen, rdPd, rdPd, arR_take l i h1]
theorem around_s (l : List S82) (hl : l.length < 1000) : Ev (fun k => spec_l7Segments.f k l) (arR l) := by
  unfold spec_l7Segments.f
  exact around_sl l hl l.length 0 (by omega)
theorem around_il (l : List S82) (hl : l.length < 1000) (d : Nat) : ∀ i : Nat, i + d = l.length → Ev (fun k => impl_around.l0 k l ((arR l).take i) l (l.length : Int) (i : Int)) (arR l) := by
  induction d with
  | zero =>
    intro i hi
    rw [List.take_of_length_le (by rw [arR_len]; omega)]
    refine Ev.step (f := fun _ => some _) (fun k => ?_) (Ev.now _)
    simp only [impl_around.l0]
    rw [if_neg (by omega)]
  | succ d ih =>
    intro i hi
    have h1 : i < l.length := by omega
    have hm : (i + 1) % l.length < l.length := Nat.mod_lt _ (by omega)
    refine Ev.step (fun k => ?_) (ih (i + 1) (by omega))
    have hlen : ((arR l).take i).length < 4398046511104 := by rw [List.length_take, arR_len]; omega
    simp only [impl_around.l0]
    rw [if_pos (by omega), if_pos (by omega), if_pos (by omega), if_neg (by omega), w1' i (by omega), tmod_nat, if_pos (by omega), if_pos (by omega), if_pos hlen, rdPd, rdPd, arR_take l i h1]
theorem around_i (l : List S82) (hl : l.length < 1000) : Ev (fun k => impl_around.f k l) (arR l) := by
  unfold impl_around.f
  exact around_il l hl l.length 0 (by omega)
theorem ring_s1 (s : List S85) (hs : s.length < 1000) (i : Nat) (hi : i < s.length) (rest : Bool) (hr : Ev (fun k => spec_IsRing.l0 k s ((i + 1 : Nat) : Int)) rest) (d : Nat) :
    ∀ k : Nat, k + d = i → Ev (fun n => spec_IsRing.l1 n s (i : Int) (k : Int)) ((List.range' k d).all (inRow s i) && rest) := by
  induction d with
  | zero =>
    intro k hk
    refine Ev.step (fun n => ?_) hr
    simp only [spec_IsRing.l1]
    rw [if_neg (by omega), w1' i (by omega)]
  | succ d ih =>
    intro k hk
    have hk1 : k < s.length := by omega
    rw [List.range'_succ, List.all_cons]
    have e2 : Ev (fun n => (spec_HowMeet.f n (s.getD i z85).f0.f0 (s.getD i z85).f0.f1 (s.getD i z85).f1.f0 (s.getD i z85).f1.f1 (s.getD k z85).f0.f0 (s.getD k z85).f0.f1 (s.getD k z85).f1.f0 (s.getD k z85).f1.f1).bind fun t => if t = wantR s.length i k then spec_IsRing.l1 n s (i : Int) ((k + 1 : Nat) : Int) else some false) (inRow s i k && (List.range' (k + 1) d).all (inRow s i) && rest) := by
      refine Ev.bind (how_s _ _ _ _ _ _ _ _) ?_
      by_cases hw : howL (s.getD i z85) (s.getD k z85) = wantR s.length i k
      · have e : inRow s i k = true := by unfold inRow; exact decide_eq_true hw
        rw [e, Bool.true_and]
        have : Ev (fun n => spec_IsRing.l1 n s (i : Int) ((k + 1 : Nat) : Int)) ((List.range' (k + 1) d).all (inRow s i) && rest) := ih (k + 1) (by omega)
        refine Ev.congr (fun n => ?_) this
        exact if_pos hw
      · have e : inRow s i k = false := by unfold inRow; exact decide_eq_false hw
        rw [e]
        refine Ev.congr (fun n => ?_) (Ev.now _)
        exact if_neg hw
    have j : ∀ b : Bool, (if b = true then (1 : Int) else 0) = wantR s.length i k → Ev (fun n => spec_IsRing.j2 n s (i : Int) (k : Int) 0 b) (inRow s i k && (List.range' (k + 1) d).all (inRow s i) && rest) := by
      intro b hb
      refine Ev.step (fun n => ?_) e2
      simp only [spec_IsRing.j2]
      rw [← hb]
      cases b
      · rw [if_neg (by simp), if_pos (by omega), if_pos (by omega), if_pos (by omega), if_pos (by omega), rdSg s i hi, rdSg s k hk1, w1' k (by omega)]; rfl
      · rw [if_pos rfl, if_pos (by omega), if_pos (by omega), if_pos (by omega), if_pos (by omega), rdSg s i hi, rdSg s k hk1, w1' k (by omega)]; rfl
    by_cases z : k + 1 = i
    · refine Ev.step (fun n => ?_) (j true (by show (1 : Int) = _; unfold wantR; rw [if_pos (.inl z)]))
      simp only [spec_IsRing.l1]
      rw [if_pos (by omega), w1' k (by omega), if_pos (by omega)]
    · by_cases z0 : k = 0
      · refine Ev.step (fun n => ?_) (j (decide (i + 1 = s.length)) (by unfold wantR; by_cases q : i + 1 = s.length <;> simp [q, z0] <;> omega))
        simp only [spec_IsRing.l1]
        rw [if_pos (by omega), w1' k (by omega), if_neg (by omega), if_pos (by omega), w1' i (by omega)]
        congr 1
        rw [Bool.eq_iff_iff]; simp; omega
      · refine Ev.step (fun n => ?_) (j false (by show (0 : Int) = _; unfold wantR; rw [if_neg (by omega)]))
        simp only [spec_IsRing.l1]
        rw [if_pos (by omega), w1' k (by omega), if_neg (by omega), if_neg (by omega)]
theorem ring_s0 (s : List S85) (hs : s.length < 1000) (d : Nat) : ∀ i : Nat, i + d = s.length → Ev (fun n => spec_IsRing.l0 n s (i : Int)) (ringS s i d) := by
  induction d with
  | zero =>
    intro i hi
    refine Ev.step (f := fun _ => some true) (fun n => ?_) (Ev.now _)
    simp only [spec_IsRing.l0]
    rw [if_neg (by omega)]
  | succ d ih =>
    intro i hi
    have h1 : i < s.length := by omega
    unfold ringS
    rw [List.range'_succ, List.all_cons]
    cases hq : segL (s.getD i z85)
    · refine Ev.step (f := fun _ => some false) (fun n => ?_) (Ev.now _)
      simp only [spec_IsRing.l0, spec_IsSegment.f, Option.bind_some]
      rw [if_pos (by omega), if_pos (by omega), rdSg s i h1]
      unfold segL at hq
      rw [hq]; simp
    · refine Ev.step (fun n => ?_) (ring_s1 s hs i h1 _ (ih (i + 1) (by omega)) i 0 (by omega))
      simp only [spec_IsRing.l0, spec_IsSegment.f, Option.bind_some]
      rw [if_pos (by omega), if_pos (by omega), rdSg s i h1]
      unfold segL at hq
      rw [hq, if_pos rfl]; rfl
theorem isRing_s (l : List S82) (hl : l.length < 9223372036854775807) : Ev (fun k => spec_IsRing.f k l) (rgB l) := by
  unfold spec_IsRing.f rgB spec_l1In.f
  simp only [Option.bind_some]
  cases h : inR (l.length : Int) 3 10
  · simp only [Bool.false_eq_true, if_false, Bool.false_and]; exact Ev.now _
  · have hb : l.length < 1000 := by unfold inR at h; simp at h; omega
    simp only [if_true, Bool.true_and]
    refine Ev.bind (around_s l hb) ?_
    have := ring_s0 (arR l) (by rw [arR_len]; exact hb) l.length 0 (by rw [arR_len]; omega)
    exact this
theorem ring_i1 (s : List S85) (hs : s.length < 1000) (i : Nat) (hi : i < s.length) (rest : Bool) (hr : Ev (fun k => impl_IsRing.l0 k s (s.length : Int) ((i + 1 : Nat) : Int)) rest) (d : Nat) :
    ∀ k : Nat, k + d = i → Ev (fun n => impl_IsRing.l1 n s (i : Int) (s.length : Int) (i : Int) (i : Int) (k : Int)) ((List.range' k d).all (inRow s i) && rest) := by
  induction d with
  | zero =>
    intro k hk
    refine Ev.step (fun n => ?_) hr
    simp only [impl_IsRing.l1]
    rw [if_neg (by omega), w1' i (by omega)]
  | succ d ih =>
    intro k hk
    have hk1 : k < s.length := by omega
    rw [List.range'_succ, List.all_cons]
    have e2 : Ev (fun n => (impl_HowMeet.f n (s.getD i z85).f0.f0 (s.getD i z85).f0.f1 (s.getD i z85).f1.f0 (s.getD i z85).f1.f1 (s.getD k z85).f0.f0 (s.getD k z85).f0.f1 (s.getD k z85).f1.f0 (s.getD k z85).f1.f1).bind fun t => if t = wantR s.length i k then impl_IsRing.l1 n s (i : Int) (s.length : Int) (i : Int) (i : Int) ((k + 1 : Nat) : Int) else some false) (inRow s i k && (List.range' (k + 1) d).all (inRow s i) && rest) := by
      refine Ev.bind (how_i _ _ _ _ _ _ _ _) ?_
      by_cases hw : howL (s.getD i z85) (s.getD k z85) = wantR s.length i k
      · have e : inRow s i k = true := by unfold inRow; exact decide_eq_true hw
        rw [e, Bool.true_and]
        refine Ev.congr (fun n => ?_) (ih (k + 1) (by omega))
        exact if_pos hw
      · have e : inRow s i k = false := by unfold inRow; exact decide_eq_false hw
        rw [e]
        refine Ev.congr (fun n => ?_) (Ev.now _)
        exact if_neg hw
    have j : ∀ b : Bool, (if b = true then (1 : Int) else 0) = wantR s.length i k → Ev (fun n => impl_IsRing.j3 n s (i : Int) (k : Int) 0 (s.length : Int) (i : Int) (i : Int) (k : Int) b) (inRow s i k && (List.range' (k + 1) d).all (inRow s i) && rest) := by
      intro b hb
      refine Ev.step (fun n => ?_) e2
      simp only [impl_IsRing.j3]
      rw [← hb]
      cases b
      · rw [if_neg (by simp), if_pos (by omega), if_pos (by omega), if_pos (by omega), if_pos (by omega), rdSg s i hi, rdSg s k hk1, w1' k (by omega)]; rfl
      · rw [if_pos rfl, if_pos (by omega), if_pos (by omega), if_pos (by omega), if_pos (by omega), rdSg s i hi, rdSg s k hk1, w1' k (by omega)]; rfl
    have wi : wrap64 ((i : Int) - 1) = (i : Int) - 1 := by unfold wrap64; omega
    have wn : wrap64 ((s.length : Int) - 1) = (s.length : Int) - 1 := by unfold wrap64; omega
    by_cases z : k + 1 = i
    · refine Ev.step (fun n => ?_) (j true (by show (1 : Int) = _; unfold wantR; rw [if_pos (.inl z)]))
      simp only [impl_IsRing.l1]
      rw [if_pos (by omega), wi, if_pos (by omega)]
    · by_cases z0 : k = 0
      · refine Ev.step (fun n => ?_) (j (decide (i + 1 = s.length)) (by unfold wantR; by_cases q : i + 1 = s.length <;> simp [q, z0] <;> omega))
        simp only [impl_IsRing.l1]
        rw [if_pos (by omega), wi, if_neg (by omega), if_pos (by omega), wn]
        congr 1
        rw [Bool.eq_iff_iff]; simp; omega
      · refine Ev.step (fun n => ?_) (j false (by show (0 : Int) = _; unfold wantR; rw [if_neg (by omega)]))
        simp only [impl_IsRing.l1]
        rw [if_pos (by omega), wi, if_neg (by omega), if_neg (by omega)]
theorem ring_i0 (s : List S85) (hs : s.length < 1000) (d : Nat) : ∀ i : Nat, i + d = s.length → Ev (fun n => impl_IsRing.l0 n s (s.length : Int) (i : Int)) (ringS s i d) := by
  induction d with
  | zero =>
    intro i hi
    refine Ev.step (f := fun _ => some true) (fun n => ?_) (Ev.now _)
    simp only [impl_IsRing.l0]
    rw [if_neg (by omega)]
  | succ d ih =>
    intro i hi
    have h1 : i < s.length := by omega
    unfold ringS
    rw [List.range'_succ, List.all_cons]
    cases hq : segL (s.getD i z85)
    · refine Ev.step (f := fun _ => some false) (fun n => ?_) (Ev.now _)
      simp only [impl_IsRing.l0, impl_IsSegment.f, Option.bind_some]
      rw [if_pos (by omega), if_pos (by omega), if_pos (by omega), rdSg s i h1]
      unfold segL at hq
      rw [hq]; simp
    · refine Ev.step (fun n => ?_) (ring_i1 s hs i h1 _ (ih (i + 1) (by omega)) i 0 (by omega))
      simp only [impl_IsRing.l0, impl_IsSegment.f, Option.bind_some]
      rw [if_pos (by omega), if_pos (by omega), if_pos (by omega), rdSg s i h1]
      unfold segL at hq
      rw [hq, if_pos rfl]; rfl
theorem isRing_i (l : List S82) (hl : l.length < 9223372036854775807) : Ev (fun k => impl_IsRing.f k l) (rgB l) := by
  unfold impl_IsRing.f rgB
  have dead : Ev (fun k => impl_IsRing.j0 k l true) false := Ev.step (f := fun _ => some false) (fun k => by simp [impl_IsRing.j0]) (Ev.now _)
  by_cases h2 : (l.length : Int) < 3
  · simp only [if_pos h2]
    have : inR (l.length : Int) 3 10 = false := by unfold inR; simp; omega
    rw [this]; exact dead
  · simp only [if_neg h2]
    by_cases h10 : (l.length : Int) > 10
    · have : inR (l.length : Int) 3 10 = false := by unfold inR; simp; omega
      rw [this, decide_eq_true h10]; exact dead
    · have : inR (l.length : Int) 3 10 = true := by unfold inR; simp; omega
      rw [this, decide_eq_false h10]
      have hb : l.length < 1000 := by omega
      refine Ev.step (f := fun k => (impl_around.f k l).bind fun t => impl_IsRing.l0 k t (t.length : Int) 0) (fun k => by simp [impl_IsRing.j0]) (Ev.bind (around_i l hb) ?_)
      exact ring_i0 (arR l) (by rw [arR_len]; exact hb) l.length 0 (by rw [arR_len]; omega)
theorem lnB_len {l : List S82} (h : lnB l = true) : 2 ≤ l.length ∧ l.length ≤ 10 := by
  unfold lnB inR at h; simp at h; omega
theorem rgB_len {l : List S82} (h : rgB l = true) : 3 ≤ l.length ∧ l.length ≤ 10 := by
  unfold rgB inR at h; simp at h; omega
theorem cr_bd (a b c d e f : Int) (h : isPt a b = true) (h' : isPt c d = true) (h'' : isPt e f = true) : -80000 ≤ crossI a b c d e f ∧ crossI a b c d e f ≤ 80000 := by
  have := cross_eq h h' h''
  omega
/-- Twice a triangle's area, or what the machine makes of it. -/
def twI (p q r : S82) : Int := mx (crossI p.f0 p.f1 q.f0 q.f1 r.f0 r.f1) (wrap64 (-(crossI p.f0 p.f1 q.f0 q.f1 r.f0 r.f1)))
def caB (l : List S82) (i : Int) : Int := if lnB l = true ∧ 1 ≤ i ∧ i ≤ (l.length : Int) - 2 then twI (l.getD (i - 1).toNat z82) (l.getD i.toNat z82) (l.getD (i + 1).toNat z82) else -1
def csB (l : List S82) (i : Int) : Int := if rgB l = true ∧ 0 ≤ i ∧ i ≤ (l.length : Int) - 1 then twI (l.getD ((i.toNat + l.length - 1) % l.length) z82) (l.getD i.toNat z82) (l.getD ((i.toNat + 1) % l.length) z82) else -1
theorem rdPi (l : List S82) (i : Int) : rd_T82 l i = l.getD i.toNat z82 := rfl
theorem ca_s (l : List S82) (hl : l.length < 9223372036854775807) (i : Int) : Ev (fun k => spec_CornerArea.f k l i) (caB l i) := by
  unfold spec_CornerArea.f
  refine Ev.bind (isLine_s l hl) ?_
  have dead : Ev (fun k => spec_CornerArea.j0 k l i true) (-1) := Ev.step (f := fun _ => some (-1)) (fun k => by simp [spec_CornerArea.j0]) (Ev.now _)
  unfold caB
  cases h : lnB l
  · simp only [Bool.false_eq_true, if_false, false_and]; exact dead
  · obtain ⟨h2, h10⟩ := lnB_len h
    have w : wrap64 ((l.length : Int) - 2) = (l.length : Int) - 2 := by unfold wrap64; omega
    simp only [if_true, spec_l1In.f, Option.bind_some, w, true_and]
    by_cases hi : 1 ≤ i ∧ i ≤ (l.length : Int) - 2
    · have e : inR i 1 ((l.length : Int) - 2) = true := by unfold inR; simp; omega
      rw [e, if_pos hi]
      refine Ev.step (f := fun _ => some _) (fun k => ?_) (Ev.now _)
      have w1 : wrap64 (i - 1) = i - 1 := by unfold wrap64; omega
      have w2 : wrap64 (i + 1) = i + 1 := by unfold wrap64; omega
      simp only [spec_CornerArea.j0, Bool.not_true, Bool.false_eq_true, if_false, w1, w2, spec_l4Cross.f, spec_Max.f, Option.bind_some, rdPi]
      rw [if_pos (by omega), if_pos (by omega), if_pos (by omega), if_pos (by omega), if_pos (by omega), if_pos (by omega)]
      rfl
    · have e : inR i 1 ((l.length : Int) - 2) = false := by unfold inR; simp; omega
      rw [e, if_neg hi]; exact dead
theorem ca_i (l : List S82) (hl : l.length < 9223372036854775807) (i : Int) : Ev (fun k => impl_CornerArea.f k l i) (caB l i) := by
  unfold impl_CornerArea.f
  refine Ev.bind (isLine_i l hl) ?_
  unfold caB
  cases h : lnB l
  · simp only [Bool.false_eq_true, if_false, false_and]; exact Ev.now _
  · obtain ⟨h2, h10⟩ := lnB_len h
    have w : wrap64 ((l.length : Int) - 2) = (l.length : Int) - 2 := by unfold wrap64; omega
    simp only [if_true, impl_InRange.f, Option.bind_some, w, true_and]
    by_cases hi : 1 ≤ i ∧ i ≤ (l.length : Int) - 2
    · have e : inR i 1 ((l.length : Int) - 2) = true := by unfold inR; simp; omega
      have w1 : wrap64 (i - 1) = i - 1 := by unfold wrap64; omega
      have w2 : wrap64 (i + 1) = i + 1 := by unfold wrap64; omega
      rw [e, if_pos hi, if_pos rfl, w1, w2]
      simp only [impl_twice.f, impl_cross.f, Option.bind_some, rdPi]
      rw [if_pos (by omega), if_pos (by omega), if_pos (by omega), if_pos (by omega), if_pos (by omega), if_pos (by omega)]
      exact Ev.now _
    · have e : inR i 1 ((l.length : Int) - 2) = false := by unfold inR; simp; omega
      rw [e, if_neg hi]; simp only [Bool.false_eq_true, if_false]; exact Ev.now _
theorem cs_idx (n : Nat) (i : Int) (h0 : 0 ≤ i) (h1 : i ≤ (n : Int) - 1) (h3 : 3 ≤ n) (h10 : n ≤ 10) : Int.tmod (wrap64 (wrap64 (i + (n : Int)) - 1)) (n : Int) = (((i.toNat + n - 1) % n : Nat) : Int) ∧ Int.tmod (wrap64 (i + 1)) (n : Int) = (((i.toNat + 1) % n : Nat) : Int) := by
  obtain ⟨m, rfl⟩ : ∃ m : Nat, i = (m : Int) := ⟨i.toNat, by omega⟩
  have w1 : wrap64 (wrap64 ((m : Int) + (n : Int)) - 1) = ((m + n - 1 : Nat) : Int) := by unfold wrap64; omega
  have w2 : wrap64 ((m : Int) + 1) = ((m + 1 : Nat) : Int) := by unfold wrap64; omega
  rw [w1, w2, tmod_nat, tmod_nat, Int.toNat_natCast]
  exact ⟨rfl, rfl⟩
theorem cs_s (l : List S82) (hl : l.length < 9223372036854775807) (i : Int) : Ev (fun k => spec_CornerSize.f k l i) (csB l i) := by
  unfold spec_CornerSize.f
  refine Ev.bind (isRing_s l hl) ?_
  have dead : Ev (fun k => spec_CornerSize.j0 k l i true) (-1) := Ev.step (f := fun _ => some (-1)) (fun k => by simp [spec_CornerSize.j0]) (Ev.now _)
  unfold csB
  cases h : rgB l
  · simp only [Bool.false_eq_true, if_false, false_and]; exact dead
  · obtain ⟨h2, h10⟩ := rgB_len h
    have w : wrap64 ((l.length : Int) - 1) = (l.length : Int) - 1 := by unfold wrap64; omega
    simp only [if_true, spec_l1In.f, Option.bind_some, w, true_and]
    by_cases hi : 0 ≤ i ∧ i ≤ (l.length : Int) - 1
    · have e : inR i 0 ((l.length : Int) - 1) = true := by unfold inR; simp; omega
      rw [e, if_pos hi]
      refine Ev.step (f := fun _ => some _) (fun k => ?_) (Ev.now _)
      obtain ⟨i1, i2⟩ := cs_idx l.length i hi.1 hi.2 h2 h10
      have m1 : (i.toNat + l.length - 1) % l.length < l.length := Nat.mod_lt _ (by omega)
      have m2 : (i.toNat + 1) % l.length < l.length := Nat.mod_lt _ (by omega)
      simp only [spec_CornerSize.j0, Bool.not_true, Bool.false_eq_true, if_false, i1, i2, spec_l4Cross.f, spec_Max.f, Option.bind_some, rdPi]
      rw [if_neg (by omega), if_pos (by omega), if_pos (by omega), if_pos (by omega), if_pos (by omega), if_pos (by omega), if_pos (by omega)]
      rfl
    · have e : inR i 0 ((l.length : Int) - 1) = false := by unfold inR; simp; omega
      rw [e, if_neg hi]; exact dead
theorem cs_i (l : List S82) (hl : l.length < 9223372036854775807) (i : Int) : Ev (fun k => impl_CornerSize.f k l i) (csB l i) := by
  unfold impl_CornerSize.f
  refine Ev.bind (isRing_i l hl) ?_
  unfold csB
  cases h : rgB l
  · simp only [Bool.false_eq_true, if_false, false_and]; exact Ev.now _
  · obtain ⟨h2, h10⟩ := rgB_len h
    have w : wrap64 ((l.length : Int) - 1) = (l.length : Int) - 1 := by unfold wrap64; omega
    simp only [if_true, impl_InRange.f, Option.bind_some, w, true_and]
    by_cases hi : 0 ≤ i ∧ i ≤ (l.length : Int) - 1
    · have e : inR i 0 ((l.length : Int) - 1) = true := by unfold inR; simp; omega
      obtain ⟨i1, i2⟩ := cs_idx l.length i hi.1 hi.2 h2 h10
      have m1 : (i.toNat + l.length - 1) % l.length < l.length := Nat.mod_lt _ (by omega)
      have m2 : (i.toNat + 1) % l.length < l.length := Nat.mod_lt _ (by omega)
      rw [e, if_pos hi, if_pos rfl, i1, i2]
      simp only [impl_twice.f, impl_cross.f, Option.bind_some, rdPi]
      rw [if_neg (by omega), if_pos (by omega), if_pos (by omega), if_pos (by omega), if_pos (by omega), if_pos (by omega), if_pos (by omega)]
      exact Ev.now _
    · have e : inR i 0 ((l.length : Int) - 1) = false := by unfold inR; simp; omega
      rw [e, if_neg hi]; simp only [Bool.false_eq_true, if_false]; exact Ev.now _
def szB (kd : Int) (l : List S82) (i : Int) : Int := if kd = 2 then caB l i else if kd = 3 then csB l i else -1
theorem sz_s (a b c : Int) (s : ByteArray) (l : List S82) (hl : l.length < 9223372036854775807) (i : Int) : Ev (fun k => spec_SizeAt.f k a b c s l i) (szB b l i) := by
  unfold spec_SizeAt.f szB
  by_cases h : b = 2
  · simp only [if_pos h]; exact Ev.bind (ca_s l hl i) (Ev.now _)
  · simp only [if_neg h]
    by_cases h' : b = 3
    · simp only [if_pos h']; exact Ev.bind (cs_s l hl i) (Ev.now _)
    · simp only [if_neg h']; exact Ev.now _
theorem sz_i (a b c : Int) (s : ByteArray) (l : List S82) (hl : l.length < 9223372036854775807) (i : Int) : Ev (fun k => impl_SizeAt.f k a b c s l i) (szB b l i) := by
  unfold impl_SizeAt.f szB
  by_cases h : b = 2
  · simp only [if_pos h]; exact Ev.bind (ca_i l hl i) (Ev.now _)
  · simp only [if_neg h]
    by_cases h' : b = 3
    · simp only [if_pos h']; exact Ev.bind (cs_i l hl i) (Ev.now _)
    · simp only [if_neg h']; exact Ev.now _
theorem rdp_at (l : List S118) (i : Nat) (h : i < l.length) : rd_T118 l (i : Int) = l[i] := by
  unfold rd_T118
  rw [Int.toNat_natCast, List.getD_eq_getElem?_getD, List.getElem?_eq_getElem h]
  rfl
theorem rdP_at (l : List S82) (i : Nat) (h : i < l.length) : rd_T82 l (i : Int) = l[i] := by
  unfold rd_T82
  rw [Int.toNat_natCast, List.getD_eq_getElem?_getD, List.getElem?_eq_getElem h]
  rfl
def convP (x : S118) : S82 := ⟨x.f0, x.f1⟩
theorem toPoints_l (l : List S118) (hb : l.length < 9223372036854775807) (d : Nat) : ∀ i : Nat, i + d = l.length → Ev (fun k => laws_toPointS.l0 k l ((l.map convP).take i ++ List.replicate d z82) (i : Int)) (l.map convP) := by
  induction d with
  | zero =>
    intro i hi
    refine Ev.step (f := fun _ => some (l.map convP)) (fun k => ?_) (Ev.now _)
    simp only [laws_toPointS.l0]
    rw [if_neg (by omega), List.take_of_length_le (by simp; omega)]
    simp
  | succ d ih =>
    intro i hi
    have h1 : i < l.length := by omega
    refine Ev.step (fun k => ?_) (ih (i + 1) (by omega))
    simp only [laws_toPointS.l0, laws_toPoint.f, Option.bind_some]
    rw [if_pos (by omega), if_pos (by omega), if_pos (by simp; omega), rdp_at l i h1, w1 i (by omega)]
    congr 1
    have hm : i < (l.map convP).length := by simpa using h1
    rw [Int.toNat_natCast, List.set_append_right _ _ (by simp; omega), List.take_succ_eq_append_getElem hm, List.replicate_succ]
    simp only [List.length_take, List.length_map, Nat.min_eq_left (show i ≤ l.length by omega), Nat.sub_self, List.set_cons_zero, List.append_assoc, List.singleton_append, List.getElem_map, convP]
theorem toPoints (l : List S118) (hb : l.length ≤ 1048576) : Ev (fun k => laws_toPointS.f k l) (l.map convP) := by
  unfold laws_toPointS.f
  simp only [if_pos (show (0 : Int) ≤ (l.length : Int) by omega), Int.toNat_natCast, if_pos (show l.length ≤ 17592186044416 by omega)]
  have := toPoints_l l (by omega) l.length 0 (by omega)
  simpa using this
theorem eqPoints_l (l : List S82) (hb : l.length < 9223372036854775807) (d : Nat) : ∀ i : Nat, i + d = l.length → Ev (fun k => laws_eqPointS.l0 k l l (i : Int)) true := by
  induction d with
  | zero =>
    intro i hi
    refine Ev.step (f := fun _ => some true) (fun k => ?_) (Ev.now _)
    simp only [laws_eqPointS.l0]
    rw [if_neg (by omega)]
  | succ d ih =>
    intro i hi
    have h1 : i < l.length := by omega
    refine Ev.step (fun k => ?_) (ih (i + 1) (by omega))
    simp only [laws_eqPointS.l0, laws_eqPoint.f]
    rw [if_pos (by omega), if_pos (by omega), if_pos (by omega), w1 i (by omega)]
    simp
theorem eqPoints (l : List S82) (hb : l.length < 9223372036854775807) : Ev (fun k => laws_eqPointS.f k l l) true := by
  unfold laws_eqPointS.f
  simp only [if_true]
  exact eqPoints_l l hb l.length 0 (by omega)
theorem toFeature1 (a b c : Int) (s : ByteArray) (l : List S118) (hl : l.length ≤ 1048576) : Ev (fun k => laws_toFeature.f k a b c s l) (a, b, c, s, l.map convP) := by
  unfold laws_toFeature.f
  exact Ev.bind (toPoints l hl) (Ev.now _)
theorem eqFeature1 (a b c : Int) (s : ByteArray) (l : List S82) (hl : l.length < 9223372036854775807) : Ev (fun k => laws_eqFeature.f k a b c s l a b c s l) true := by
  unfold laws_eqFeature.f
  simp only [if_true]
  refine Ev.bind (eqPoints l hl) ?_
  simp only [if_true]
  exact Ev.now _
theorem szFeature1 (a b c : Int) (s : ByteArray) (hs : s.size ≤ 9223372036854775807) (l : List S118) (hl : l.length ≤ 9223372036854775807) (n : Int) (h0 : 0 ≤ n) (h1 : n ≤ 1048576) : ∃ r, laws_szFeature.f a b c s l n = some r ∧ (¬ r < 0 → l.length ≤ 1048576 ∧ s.size ≤ 1048576 ∧ 0 ≤ r ∧ r ≤ 1048576) := by
  unfold laws_szFeature.f laws_szPointS.f
  have w : wrap64 (n - (s.size : Int)) = n - (s.size : Int) := by unfold wrap64; omega
  rw [w]
  by_cases hc : n - (s.size : Int) < 0
  · rw [if_pos hc]; exact ⟨_, rfl, fun h => by omega⟩
  · have w2 : wrap64 (n - (s.size : Int) - (l.length : Int)) = n - (s.size : Int) - (l.length : Int) := by unfold wrap64; omega
    rw [if_neg hc, w2]
    by_cases hc2 : n - (s.size : Int) - (l.length : Int) < 0
    · rw [if_pos hc2]; exact ⟨-1, rfl, fun h => by omega⟩
    · rw [if_neg hc2]; exact ⟨n - (s.size : Int) - (l.length : Int), by simp only [Option.bind_some]; rw [if_neg hc2], fun h => by omega⟩
theorem main : ∀ (a0_0 : Int) (a0_1 : Int) (a0_2 : Int) (a0_3 : ByteArray) (l0_4 : List (S118)) (a1 : Int), (Lit.int .i64 a0_0).wf = true → (Lit.int .i64 a0_1).wf = true → (Lit.int .i64 a0_2).wf = true → a0_3.size ≤ 9223372036854775807 → (l0_4.length ≤ 9223372036854775807 ∧ ∀ x ∈ l0_4, ((Lit.int .i64 x.f0).wf = true ∧ (Lit.int .i64 x.f1).wf = true)) → (Lit.int .i64 a1).wf = true → ∃ k, laws_FnExactSizeAt.f k a0_0 a0_1 a0_2 a0_3 l0_4 a1 = some true := by
  intro a b c s l i _ _ _ hs hl _
  refine Ev.rounds (r := true) ?_
  unfold laws_FnExactSizeAt.f
  obtain ⟨r, hr, hb⟩ := szFeature1 a b c s hs l hl.1 1048576 (by omega) (by omega)
  rw [hr]
  simp only [Option.bind_some]
  by_cases hc : r < 0
  · simp only [if_pos hc]; exact Ev.now _
  · simp only [if_neg hc]
    obtain ⟨h1, _⟩ := hb hc
    have hm : (l.map convP).length < 9223372036854775807 := by simp; omega
    refine Ev.bind (toFeature1 a b c s l h1) (Ev.bind (sz_s a b c s _ hm i) (Ev.bind (toFeature1 a b c s l h1) (Ev.bind (sz_i a b c s _ hm i) ?_)))
    simp only [if_true]
    refine Ev.bind (toFeature1 a b c s l h1) (Ev.bind (eqFeature1 a b c s _ hm) ?_)
    simp only [if_true]
    exact Ev.now _
end Go.Proofs.Ytdfehjfmihokpaa.Pure.FnExactSizeAt
