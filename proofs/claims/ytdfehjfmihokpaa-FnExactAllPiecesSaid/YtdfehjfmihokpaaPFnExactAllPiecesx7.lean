-- Written by a program of this session's: the kit's print, turned (turnprint.py): functions, and that Go comes to just their answers.
import Derived.Test.YtdfehjfmihokpaaZ
import Derived.Test.YtdfehjfmihokpaaPFnExactAllPiecesx0
import Derived.Test.YtdfehjfmihokpaaPFnExactAllPiecesx5
import Derived.Test.YtdfehjfmihokpaaPFnExactAllPiecesx6
namespace Go.Proofs.Ytdfehjfmihokpaa.PFnExactAllPieces
open Go.RowKit Go.Proofs.YtdfehjfmihokpaaW.PrintWords Go.Proofs.YtdfehjfmihokpaaW.PrintLast Go.Proofs.YtdfehjfmihokpaaW.PrintMore Go.Proofs.YtdfehjfmihokpaaGeo Go.Proofs.YtdfehjfmihokpaaHand Go.Proofs.YtdfehjfmihokpaaMeet Go.Proofs.YtdfehjfmihokpaaQuiet Go.Proofs.YtdfehjfmihokpaaZ
attribute [local go_sem] max2_int min2_int max_two min_two max_three min_three max_four min_four   -- for this text's walks alone
set_option linter.unusedVariables false
set_option linter.unusedSimpArgs false

/-! ### spec_HowMeet: function 145 -/
theorem on_s (a b c d x y : Int) : spec_IsOn.f a b c d x y = some (isOnI a b c d x y) := rfl
def eqP (p q : S82) : Bool := decide (p.f0 = q.f0) && decide (p.f1 = q.f1)
theorem nep (p q : S82) : (!((p.f0) == (q.f0)) || (!((p.f1) == (q.f1)))) = !eqP p q := by
  unfold eqP
  by_cases h : p.f0 = q.f0 <;> by_cases h' : p.f1 = q.f1 <;> simp [h, h']
theorem rdPt (l : List S82) (i : Nat) (h : i < l.length) : rd_T82 l (i : Int) = l[i] := by
  unfold rd_T82
  rw [Int.toNat_natCast, List.getD_eq_getElem?_getD, List.getElem?_eq_getElem h]
  rfl
theorem w1' (i : Nat) (h : i < 9223372036854775807) : wrap64 ((i : Int) + 1) = ((i + 1 : Nat) : Int) := by unfold wrap64; omega
theorem all_if (x : Bool) (L : List S82) (y : S82) (q : S82 → Bool) : (if x = true then L ++ [y] else L).all q = (L.all q && (!x || q y)) := by cases x <;> simp
theorem len_if (x : Bool) (L : List S82) (y : S82) : (if x = true then L ++ [y] else L).length = L.length + (if x = true then 1 else 0) := by cases x <;> simp
section
variable (a b c d e f g h : Int)
theorem sh_l1 (xs es : List S82) (i : Nat) (hi : i < es.length) (hes : es.length ≤ 4) (hx : xs.length ≤ 4) (m : Nat) : ∀ (j : Nat) (on : Bool), j + m = xs.length → ∀ r,
    Ev (fun k => spec_l5Shared.l0 k (if on && (xs.drop j).all (fun p => !eqP p es[i]) then xs ++ [es[i]] else xs) es ((i + 1 : Nat) : Int) a b c d e f g h) r → Ev (fun k => spec_l5Shared.l1 k xs es (i : Int) on (j : Int) a b c d e f g h) r := by
  induction m with
  | zero =>
    intro j on hj r hr; rw [List.drop_of_length_le (by omega)] at hr; refine Ev.step (fun k => ?_) hr; simp only [spec_l5Shared.l1]; rw [if_neg (by omega)]; simp only [List.all_nil, Bool.and_true]
    cases on
    · simp only [Bool.false_eq_true, if_false, w1' i (by omega)]
    · simp only [if_true]; rw [if_pos (by omega), if_pos (by omega), if_pos (by omega), w1' i (by omega), rdPt es i hi]
  | succ m ih =>
    intro j on hj r hr; have hj1 : j < xs.length := by omega
    have hd := List.drop_eq_getElem_cons hj1; rw [hd, List.all_cons] at hr; refine Ev.step (fun k => ?_) (ih (j + 1) (on && !eqP xs[j] es[i]) (by omega) r (by rw [Bool.and_assoc]; exact hr)); simp only [spec_l5Shared.l1]; rw [if_pos (by omega)]
    cases on
    · simp only [Bool.false_eq_true, if_false, w1' j (by omega), Bool.false_and]
    · simp only [if_true]; rw [if_pos (by omega), if_pos (by omega), if_pos (by omega), w1' j (by omega), rdPt es i hi, rdPt xs j hj1, nep, Bool.true_and]
/-- Which segment an end is held against. -/
def onI (i : Nat) (p : S82) : Bool := if i < 2 then isOnI e f g h p.f0 p.f1 else isOnI a b c d p.f0 p.f1
theorem sh_l0 (xs es : List S82) (i : Nat) (hi : i < es.length) (hes : es.length = 4) (hx : xs.length ≤ 4) (r : Int)
    (hr : Ev (fun k => spec_l5Shared.l0 k (if onI a b c d e f g h i es[i] && xs.all (fun p => !eqP p es[i]) then xs ++ [es[i]] else xs) es ((i + 1 : Nat) : Int) a b c d e f g h) r) : Ev (fun k => spec_l5Shared.l0 k xs es (i : Int) a b c d e f g h) r := by
  have go : ∀ on : Bool, on = onI a b c d e f g h i es[i] → Ev (fun k => spec_l5Shared.j1 k xs es (i : Int) on a b c d e f g h) r := by
    intro on hon; refine Ev.step (f := fun k => spec_l5Shared.l1 k xs es (i : Int) on ((0 : Nat) : Int) a b c d e f g h) (fun k => by rw [spec_l5Shared.j1]; rfl) (sh_l1 a b c d e f g h xs es i hi (by omega) hx xs.length 0 on (by omega) r ?_); rw [hon, List.drop_zero]
    exact hr
  have step : ∀ k, spec_l5Shared.l0 (k + 1) xs es (i : Int) a b c d e f g h = spec_l5Shared.j1 k xs es (i : Int) (onI a b c d e f g h i es[i]) a b c d e f g h := by
    intro k; simp only [spec_l5Shared.l0]; rw [if_pos (by omega)]
    by_cases h2 : i < 2
    · rw [if_pos (by omega), if_pos (by omega), if_pos (by omega), rdPt es i hi, on_s, onI, if_pos h2]; simp only [Option.bind_some]
      cases isOnI e f g h es[i].f0 es[i].f1
      · rw [if_neg (by simp), if_neg (by omega)]
      · rw [if_pos rfl]
    · rw [if_neg (by omega), if_pos (by omega), if_pos (by omega), if_pos (by omega), rdPt es i hi, on_s, onI, if_neg h2]; simp only [Option.bind_some]
  exact Ev.step step (go _ rfl)
theorem share_s : Ev (fun k => spec_l5Shared.f k a b c d e f g h) (shareI a b c d e f g h) := by
  unfold spec_l5Shared.f
  generalize hes : ([(⟨a, b⟩ : S82), ⟨c, d⟩, ⟨e, f⟩, ⟨g, h⟩] : List S82) = es; have h4 : es.length = 4 := by subst hes; rfl
  have e0 : es[0]'(by omega) = ⟨a, b⟩ := by subst hes; rfl
  have e1 : es[1]'(by omega) = ⟨c, d⟩ := by subst hes; rfl
  have e2 : es[2]'(by omega) = ⟨e, f⟩ := by subst hes; rfl
  have e3 : es[3]'(by omega) = ⟨g, h⟩ := by subst hes; rfl
  refine sh_l0 a b c d e f g h [] es 0 (by omega) h4 (by simp) _ ?_; refine sh_l0 a b c d e f g h _ es 1 (by omega) h4 (by split <;> simp) _ ?_; refine sh_l0 a b c d e f g h _ es 2 (by omega) h4 (by split <;> split <;> simp) _ ?_; refine sh_l0 a b c d e f g h _ es 3 (by omega) h4 (by split <;> split <;> split <;> simp) _ ?_; rw [e0, e1, e2, e3]; have q0 : onI a b c d e f g h 0 ⟨a, b⟩ = isOnI e f g h a b := rfl; have q1 : onI a b c d e f g h 1 ⟨c, d⟩ = isOnI e f g h c d := rfl; have q2 : onI a b c d e f g h 2 ⟨e, f⟩ = isOnI a b c d e f := rfl; have q3 : onI a b c d e f g h 3 ⟨g, h⟩ = isOnI a b c d g h := rfl; rw [q0, q1, q2, q3]
  unfold shareI
  generalize isOnI e f g h a b = o0; generalize isOnI e f g h c d = o1; generalize isOnI a b c d e f = o2; generalize isOnI a b c d g h = o3; refine Ev.step (f := fun _ => some _) (fun k => ?_) (Ev.now _); simp only [spec_l5Shared.l0]; rw [if_neg (by omega)]
  congr 1
  have E : ∀ x y x' y' : Int, eqP ⟨x, y⟩ ⟨x', y'⟩ = (decide (x = x') && decide (y = y')) := fun _ _ _ _ => rfl
  generalize hA : (decide (a = c) && decide (b = d)) = eab; generalize hB : (decide (a = e) && decide (b = f)) = eac; generalize hC : (decide (c = e) && decide (d = f)) = ebc; generalize hD : (decide (a = g) && decide (b = h)) = ead; generalize hE : (decide (c = g) && decide (d = h)) = ebd; generalize hF : (decide (e = g) && decide (f = h)) = ecd; simp only [all_if, len_if, List.all_nil, List.length_nil, E, hA, hB, hC, hD, hE, hF]; have n1 : (o1 && (true && (!(o0 && true) || !eab))) = (o1 && !(o0 && eab)) := by cases o0 <;> cases eab <;> rfl
  rw [n1]; generalize (o1 && !(o0 && eab)) = p1; have n2 : (o2 && (true && (!(o0 && true) || !eac) && (!p1 || !ebc))) = (o2 && !(o0 && eac) && !(p1 && ebc)) := by cases o0 <;> cases eac <;> cases p1 <;> cases ebc <;> cases o2 <;> rfl
  rw [n2]; generalize (o2 && !(o0 && eac) && !(p1 && ebc)) = p2; have n3 : (o3 && (true && (!(o0 && true) || !ead) && (!p1 || !ebd) && (!p2 || !ecd))) = (o3 && !(o0 && ead) && !(p1 && ebd) && !(p2 && ecd)) := by cases o0 <;> cases ead <;> cases p1 <;> cases ebd <;> cases p2 <;> cases ecd <;> cases o3 <;> rfl
  rw [n3]; generalize (o3 && !(o0 && ead) && !(p1 && ebd) && !(p2 && ecd)) = p3
  cases o0 <;> cases p1 <;> cases p2 <;> cases p3 <;> rfl
end
theorem wrap_sd (x y : Int) (hx : -1 ≤ x ∧ x ≤ 1) (hy : -1 ≤ y ∧ y ≤ 1) : wrap64 (x * y) = x * y := by
  have : x = -1 ∨ x = 0 ∨ x = 1 := by omega
  rcases this with rfl | rfl | rfl <;> unfold wrap64 <;> omega
theorem sd_bd (a b c d e f : Int) : -1 ≤ sideI a b c d e f ∧ sideI a b c d e f ≤ 1 := by
  unfold sideI cmpI; (repeat' split) <;> omega
theorem spec_HowMeet.no1 (a b c d e f g h : Int) (hs : isSeg a b c d = false) (w : World) : Calls Try.prog 145 #[.agg #[.int .i64 a, .int .i64 b, .int .i64 c, .int .i64 d], .agg #[.int .i64 e, .int .i64 f, .int .i64 g, .int .i64 h]] w fun e w' => e = .returned (.int .i64 0) ∧ Below w.heap.size w w' := by
  have ht : True := trivial; have HB := Aside0.mk (Below.refl w.heap.size w)
  go_enter Try.func145, Try.ntmps145; go_wp2_with (first | (go_at_call 148; refine (spec_IsSegment.any _ _ _ _ _).mono ?_; rintro e w1 ⟨rfl, hb⟩; simp only [hs, ht]; have n0 := Aside0.mk (below_step (by repeat (first | (with_reducible first | exact HB.out | apply below_alloc | apply below_drew1 | apply pw_below_drewN) | exact HB.out)) hb); clear HB; have HB := n0; clear n0; (first | (have n1 := Aside0.mk (blk_below hS.out hb); have n2 := Aside0.mk (blk_below hT.out hb); clear hS hT; have hS := n1; have hT := n2; clear n1 n2) | (have hS := Aside0.mk (blk_below (two1 w _ _) hb); have hT := Aside0.mk (blk_below (two2 w _ _) hb))); clear hb; obtain ⟨k0, k1, k2, k3⟩ := c4 hS.out; obtain ⟨j0, j1, j2, j3⟩ := c4 hT.out)); go_ret
  exact ⟨rfl, HB.out⟩
theorem spec_HowMeet.no2 (a b c d e f g h : Int) (hs : isSeg a b c d = true) (ht : isSeg e f g h = false) (w : World) : Calls Try.prog 145 #[.agg #[.int .i64 a, .int .i64 b, .int .i64 c, .int .i64 d], .agg #[.int .i64 e, .int .i64 f, .int .i64 g, .int .i64 h]] w fun e w' => e = .returned (.int .i64 0) ∧ Below w.heap.size w w' := by
  have HB := Aside0.mk (Below.refl w.heap.size w)
  go_enter Try.func145, Try.ntmps145; go_wp2_with (first | (go_at_call 148; refine (spec_IsSegment.any _ _ _ _ _).mono ?_; rintro e w1 ⟨rfl, hb⟩; simp only [hs, ht]; have n0 := Aside0.mk (below_step (by repeat (first | (with_reducible first | exact HB.out | apply below_alloc | apply below_drew1 | apply pw_below_drewN) | exact HB.out)) hb); clear HB; have HB := n0; clear n0; (first | (have n1 := Aside0.mk (blk_below hS.out hb); have n2 := Aside0.mk (blk_below hT.out hb); clear hS hT; have hS := n1; have hT := n2; clear n1 n2) | (have hS := Aside0.mk (blk_below (two1 w _ _) hb); have hT := Aside0.mk (blk_below (two2 w _ _) hb))); clear hb; obtain ⟨k0, k1, k2, k3⟩ := c4 hS.out; obtain ⟨j0, j1, j2, j3⟩ := c4 hT.out)); go_ret
  exact ⟨rfl, HB.out⟩
set_option maxHeartbeats 8000000 in
set_option maxRecDepth 100000 in
theorem spec_HowMeet.wlk (a b c d e f g h x1 x2 x3 x4 y z sh : Int) (z1 z2 z3 z4 : Bool) (hs : isSeg a b c d = true) (ht : isSeg e f g h = true) (hx1 : sideI a b c d e f = x1) (hx2 : sideI a b c d g h = x2) (hx3 : sideI e f g h a b = x3) (hx4 : sideI e f g h c d = x4)
    (f1 : IntKind.i64.wrap (x1 * x2) = y) (f2 : IntKind.i64.wrap (x3 * x4) = z) (c1 : decide (mx a c < mn e g) = z1) (c2 : decide (mx e g < mn a c) = z2) (c3 : decide (mx b d < mn f h) = z3) (c4_ : decide (mx f h < mn b d) = z4) (hy : y = -1 ∨ y = 0 ∨ y = 1) (hz : z = -1 ∨ z = 0 ∨ z = 1)
    (hsh : ∀ W : World, Calls Try.prog 168 #[.agg #[.int .i64 a, .int .i64 b, .int .i64 c, .int .i64 d], .agg #[.int .i64 e, .int .i64 f, .int .i64 g, .int .i64 h]] W fun e w' => e = .returned (.int .i64 sh) ∧ Below W.heap.size W w') (w : World) :
    Calls Try.prog 145 #[.agg #[.int .i64 a, .int .i64 b, .int .i64 c, .int .i64 d], .agg #[.int .i64 e, .int .i64 f, .int .i64 g, .int .i64 h]] w fun e w' => e = .returned (.int .i64 (if (z1 || z2 || z3 || z4) = true then 0 else if sh = 0 then (if y < 0 ∧ z < 0 then 2 else 0) else if sh = 1 then 1 else 3)) ∧ Below w.heap.size w w' := by
  have hQ : (y = -1 ∧ z = -1) ∨ y = 0 ∨ y = 1 ∨ (y = -1 ∧ z = 0) ∨ (y = -1 ∧ z = 1) := by omega
  have hZ : z1 = true ∨ (z1 = false ∧ z2 = true) ∨ (z1 = false ∧ z2 = false ∧ z3 = true) ∨ (z1 = false ∧ z2 = false ∧ z3 = false ∧ z4 = true) ∨ (z1 = false ∧ z2 = false ∧ z3 = false ∧ z4 = false) := by cases z1 <;> cases z2 <;> cases z3 <;> cases z4 <;> simp
  have hN : sh = 0 ∨ sh = 1 ∨ ((sh == 0) = false ∧ (sh == 1) = false ∧ decide (sh = 0) = false ∧ decide (sh = 1) = false ∧ (sh = 0) = False ∧ (sh = 1) = False) := by
    by_cases h0 : sh = 0
    · exact .inl h0
    · by_cases h1 : sh = 1
      · exact .inr (.inl h1)
      · exact .inr (.inr (by simp [h0, h1]))
  clear hy hz; have r1 : (mx a c < mn e g) = (z1 = true) := by rw [← c1]; simp
  have r2 : (mx e g < mn a c) = (z2 = true) := by rw [← c2]; simp
  have r3 : (mx b d < mn f h) = (z3 = true) := by rw [← c3]; simp
  have r4 : (mx f h < mn b d) = (z4 = true) := by rw [← c4_]; simp
  have HB := Aside0.mk (Below.refl w.heap.size w)
  go_enter Try.func145, Try.ntmps145; go_wp2_with (first | (go_at_call 148; refine (spec_IsSegment.any _ _ _ _ _).mono ?_; rintro e w1 ⟨rfl, hb⟩; simp only [hs, ht]; have n0 := Aside0.mk (below_step (by repeat (first | (with_reducible first | exact HB.out | apply below_alloc | apply below_drew1 | apply pw_below_drewN) | exact HB.out)) hb); clear HB; have HB := n0; clear n0; (first | (have n1 := Aside0.mk (blk_below hS.out hb); have n2 := Aside0.mk (blk_below hT.out hb); clear hS hT; have hS := n1; have hT := n2; clear n1 n2) | (have hS := Aside0.mk (blk_below (two1 w _ _) hb); have hT := Aside0.mk (blk_below (two2 w _ _) hb))); clear hb; obtain ⟨k0, k1, k2, k3⟩ := c4 hS.out; obtain ⟨j0, j1, j2, j3⟩ := c4 hT.out))
  rcases hZ with rfl | ⟨rfl, rfl⟩ | ⟨rfl, rfl, rfl⟩ | ⟨rfl, rfl, rfl, rfl⟩ | ⟨rfl, rfl, rfl, rfl⟩
  all_goals
    simp only [Bool.false_eq_true] at r1 r2 r3 r4; refine wq_region (by kernel_rfl) (by kernel_rfl) ?_; obtain ⟨m0, m1, m2, m3⟩ := q4 hS.out; obtain ⟨l0, l1, l2, l3⟩ := q4 hT.out
    iterate 66 (refine wq_step (fun K hK => ?_); go_simp; first | (refine hK _ ?_; clear hK K) | (apply Exists.intro; refine ⟨fun _ => ?_, hK _ ?_⟩; (first | exact qs (fun W => spec_Min.any _ _ W) _ _ | exact qs (fun W => spec_Max.any _ _ W) _ _); clear hK K))
    refine wq_nil ?_; intro w4 hb; clear m0 m1 m2 m3 l0 l1 l2 l3 k0 k1 k2 k3 j0 j1 j2 j3; have n0 := Aside0.mk (below_step HB.out hb); have n1 := Aside0.mk (blk_below hS.out hb); have n2 := Aside0.mk (blk_below hT.out hb); clear HB hS hT hb; have HB := n0; have hS := n1; have hT := n2; clear n0 n1 n2; obtain ⟨k0, k1, k2, k3⟩ := c4 hS.out; obtain ⟨j0, j1, j2, j3⟩ := c4 hT.out; clear c1 c2 c3 c4_ r1 r2 r3 r4
  · (go_wp2; go_ret; exact ⟨rfl, HB.out⟩)
  · (go_wp2; go_ret; exact ⟨rfl, HB.out⟩)
  · (go_wp2; go_ret; exact ⟨rfl, HB.out⟩)
  · (go_wp2; go_ret; exact ⟨rfl, HB.out⟩)
  rcases hN with rfl | rfl | ⟨v1, v2, v3, v4, v5, v6⟩
  · go_wp2_with (first | (go_at_call 168; refine (hsh _).mono ?_; rintro e w1 ⟨rfl, hb⟩; clear k0 k1 k2 k3 j0 j1 j2 j3; have n0 := Aside0.mk (below_step HB.out hb); have n1 := Aside0.mk (blk_below hS.out hb); have n2 := Aside0.mk (blk_below hT.out hb); clear HB hS hT hb; have HB := n0; have hS := n1; have hT := n2; clear n0 n1 n2; obtain ⟨k0, k1, k2, k3⟩ := c4 hS.out; obtain ⟨j0, j1, j2, j3⟩ := c4 hT.out)); clear hsh
    rcases hQ with ⟨rfl, rfl⟩ | rfl | rfl | ⟨rfl, rfl⟩ | ⟨rfl, rfl⟩
    all_goals
      refine wq_region (by kernel_rfl) (by kernel_rfl) ?_; obtain ⟨m0, m1, m2, m3⟩ := q4 hS.out; obtain ⟨l0, l1, l2, l3⟩ := q4 hT.out
      iterate 34 (refine wq_step (fun K hK => ?_); go_simp; first | (refine hK _ ?_; clear hK K) | (apply Exists.intro; refine ⟨fun _ => ?_, hK _ ?_⟩; (exact qc (fun W => spec_SideOf.any _ _ _ _ _ _ W) _ _); clear hK K))
      refine wq_nil ?_; intro w6 hb; clear m0 m1 m2 m3 l0 l1 l2 l3 k0 k1 k2 k3 j0 j1 j2 j3; have n0 := Aside0.mk (below_step HB.out hb); have n1 := Aside0.mk (blk_below hS.out hb); have n2 := Aside0.mk (blk_below hT.out hb); clear HB hS hT hb; have HB := n0; have hS := n1; have hT := n2; clear n0 n1 n2; obtain ⟨k0, k1, k2, k3⟩ := c4 hS.out; obtain ⟨j0, j1, j2, j3⟩ := c4 hT.out; go_wp2; go_ret
      exact ⟨rfl, HB.out⟩
  · clear hQ; go_wp2_with (first | (go_at_call 168; refine (hsh _).mono ?_; rintro e w1 ⟨rfl, hb⟩; clear k0 k1 k2 k3 j0 j1 j2 j3; have n0 := Aside0.mk (below_step HB.out hb); have n1 := Aside0.mk (blk_below hS.out hb); have n2 := Aside0.mk (blk_below hT.out hb); clear HB hS hT hb; have HB := n0; have hS := n1; have hT := n2; clear n0 n1 n2; obtain ⟨k0, k1, k2, k3⟩ := c4 hS.out; obtain ⟨j0, j1, j2, j3⟩ := c4 hT.out)); go_ret
    exact ⟨rfl, HB.out⟩
  · clear hQ; go_wp2_with (first | (go_at_call 168; refine (hsh _).mono ?_; rintro e w1 ⟨rfl, hb⟩; clear k0 k1 k2 k3 j0 j1 j2 j3; have n0 := Aside0.mk (below_step HB.out hb); have n1 := Aside0.mk (blk_below hS.out hb); have n2 := Aside0.mk (blk_below hT.out hb); clear HB hS hT hb; have HB := n0; have hS := n1; have hT := n2; clear n0 n1 n2; obtain ⟨k0, k1, k2, k3⟩ := c4 hS.out; obtain ⟨j0, j1, j2, j3⟩ := c4 hT.out)); go_ret
    exact ⟨by simp [v5, v6], HB.out⟩
theorem wrap_three (x y : Int) (hx : -1 ≤ x ∧ x ≤ 1) (hy : -1 ≤ y ∧ y ≤ 1) : IntKind.i64.wrap (x * y) = x * y ∧ (IntKind.i64.wrap (x * y) = -1 ∨ IntKind.i64.wrap (x * y) = 0 ∨ IntKind.i64.wrap (x * y) = 1) := by
  rw [i64_w, wrap_sd x y hx hy]; refine ⟨rfl, ?_⟩; have h1 : x = -1 ∨ x = 0 ∨ x = 1 := by omega
  rcases h1 with rfl | rfl | rfl <;> omega
theorem spec_HowMeet.any (a b c d e f g h : Int) (w : World) : Calls Try.prog 145 #[.agg #[.int .i64 a, .int .i64 b, .int .i64 c, .int .i64 d], .agg #[.int .i64 e, .int .i64 f, .int .i64 g, .int .i64 h]] w fun e_ w' => e_ = .returned (.int .i64 (howS a b c d e f g h)) ∧ Below w.heap.size w w' := by
  unfold howS
  cases hs : isSeg a b c d
  · rw [if_pos (.inl rfl)]; exact spec_HowMeet.no1 a b c d e f g h hs w
  · cases ht : isSeg e f g h
    · rw [if_pos (.inr rfl)]; exact spec_HowMeet.no2 a b c d e f g h hs ht w
    · obtain ⟨y1, y2⟩ := wrap_three _ _ (sd_bd a b c d e f) (sd_bd a b c d g h); obtain ⟨y3, y4⟩ := wrap_three _ _ (sd_bd e f g h a b) (sd_bd e f g h c d); obtain ⟨K, hK⟩ := share_s a b c d e f g h; refine (spec_HowMeet.wlk a b c d e f g h _ _ _ _ _ _ (shareI a b c d e f g h) _ _ _ _ hs ht rfl rfl rfl rfl rfl rfl rfl rfl rfl rfl y2 y4 (fun W => spec_l5Shared.calls K _ _ _ _ _ _ _ _ _ W (hK K (Nat.le_refl _))) w).mono ?_; rintro e_ w' ⟨rfl, hb⟩; refine ⟨?_, hb⟩; rw [y1, y3, if_neg (show ¬ (true = false ∨ true = false) by simp)]; simp only [Bool.or_eq_true, decide_eq_true_eq, or_assoc]
def spec_HowMeet.f (a0_0 a0_1 a0_2 a0_3 a1_0 a1_1 a1_2 a1_3 : Int) : Option (Int) := some (howS a0_0 a0_1 a0_2 a0_3 a1_0 a1_1 a1_2 a1_3)
theorem spec_HowMeet.calls (a0_0 : Int) (a0_1 : Int) (a0_2 : Int) (a0_3 : Int) (a1_0 : Int) (a1_1 : Int) (a1_2 : Int) (a1_3 : Int) (r : Int) (w : World) (h : spec_HowMeet.f a0_0 a0_1 a0_2 a0_3 a1_0 a1_1 a1_2 a1_3 = some r) :
    Calls Try.prog 145 #[.agg #[.int .i64 a0_0, .int .i64 a0_1, .int .i64 a0_2, .int .i64 a0_3], .agg #[.int .i64 a1_0, .int .i64 a1_1, .int .i64 a1_2, .int .i64 a1_3]] w fun e w' => e = .returned (.int .i64 r) ∧ Below w.heap.size w w' := by
  obtain rfl := Option.some.inj h
  exact spec_HowMeet.any a0_0 a0_1 a0_2 a0_3 a1_0 a1_1 a1_2 a1_3 w
/-! ### spec_l7Segments: function 147 -/
def spec_l7Segments.l0 : Nat → List (S82) → List (S85) → Int → Option ((List (S85)))
 | 0, _, _, _ => none
 | k + 1, x0, x3, x4 => if x4 < (x0.length : Int) then (if 0 ≤ x4 then (if (x0.length : Int) = 0 then (none) else (if 0 ≤ (Int.tmod (wrap64 (x4 + 1)) (x0.length : Int)) then (if (Int.tmod (wrap64 (x4 + 1)) (x0.length : Int)) < (x0.length : Int) then (if x3.length < 4398046511104 then (spec_l7Segments.l0 k x0 (x3 ++ [(⟨(⟨(rd_T82 x0 x4).f0, (rd_T82 x0 x4).f1⟩ : S82), (⟨(rd_T82 x0 (Int.tmod (wrap64 (x4 + 1)) (x0.length : Int))).f0, (rd_T82 x0 (Int.tmod (wrap64 (x4 + 1)) (x0.length : Int))).f1⟩ : S82)⟩ : S85)]) (wrap64 (x4 + 1))) else (none)) else (none)) else (none))) else (none)) else (some x3)
def spec_l7Segments.f (k : Nat) (l0 : List (S82)) : Option ((List (S85))) := spec_l7Segments.l0 k l0 (([] : List (S85))) 0
theorem spec_l7Segments.mono_l : ∀ k, (∀ y0 y1 y2, LeO (spec_l7Segments.l0 k y0 y1 y2) (spec_l7Segments.l0 (k + 1) y0 y1 y2))
 | 0 => fun _ _ _ r h => by simp [spec_l7Segments.l0] at h
 | k + 1 => by
  have ih0 := spec_l7Segments.mono_l k
  ·intro y0 y1 y2
   unfold spec_l7Segments.l0
   repeat' first | (with_reducible first | exact ih0 _ _ _ | exact LeO.refl _ | exact LeO.none _ | refine LeO.ite ?_ ?_ | refine LeO.bind ?_ (fun _ => ?_)) | exact ih0 _ _ _ | exact LeO.none _ | refine LeO.ite ?_ ?_ | refine LeO.bind ?_ (fun _ => ?_)
theorem spec_l7Segments.mono : ∀ a0 k, LeO (spec_l7Segments.f k a0) (spec_l7Segments.f (k + 1) a0) := by
 intro a0 k; have ih0 := spec_l7Segments.mono_l k
 unfold spec_l7Segments.f
 repeat' first | (with_reducible first | exact ih0 _ _ _ | exact LeO.refl _ | exact LeO.none _ | refine LeO.ite ?_ ?_ | refine LeO.bind ?_ (fun _ => ?_)) | exact ih0 _ _ _ | exact LeO.none _ | refine LeO.ite ?_ ?_ | refine LeO.bind ?_ (fun _ => ?_)
def spec_l7Segments.T5 : Bool × List (List Nat × List Nat) := (true, [([], []), ([], []), ([], []), ([1, 2], [1, 2]), ([3], [3]), ([], []), ([], []), ([6], [6]), ([], []), ([8], [8]), ([7, 9], [7, 9]), ([5, 10], [5, 10]), ([11], [11]), ([4, 12], [4, 12]), ([13], [13]), ([0, 14], [0, 14]), ([15, 15, 0, 1, 2, 3, 4, 5, 6, 7, 8, 9, 10, 11, 12, 13, 14, 15], [0, 15])])
def spec_l7Segments.B5 : List Nat := [0, 0, 0, 6, 14, 0, 0, 64, 0, 256, 960, 2016, 4064, 8190, 16382, 32767, 65535]
theorem spec_l7Segments.tab5 : rtab .any (opsOf Try.f147 5) = spec_l7Segments.T5 := by kernel_rfl
theorem spec_l7Segments.bits5 : waitsOk spec_l7Segments.T5.2 spec_l7Segments.B5 = true := by kernel_rfl
set_option maxHeartbeats 8000000 in
set_option maxRecDepth 100000 in
theorem spec_l7Segments.calls (k : Nat) (A0 : Option Addr) (c0 : Nat) (l0 : List (S82)) (r : List (S85)) (w : World) (hr0 : Kd.C k82 w A0 l0.length l0) (hc0 : l0.length ≤ c0) (h : spec_l7Segments.f k l0 = some r) :
  Calls Try.prog 147 #[.slice A0 l0.length c0] w fun e w' => ∃ v0_ : Value, e = .returned (v0_) ∧ Kd.R k85 85 w' w.heap.size (fun _ => True) v0_ r ∧ Below w.heap.size w w' := by
 have hu82 := Try.underlying82; have hu85 := Try.underlying85; have HR0 := Aside0.mk hr0; have HC0 := Aside0.mk hc0; clear hr0 hc0; have HB := Aside0.mk (Below.refl w.heap.size w); have H : (spec_l7Segments.l0 k l0 (([] : List (S85))) 0) = some r := h; clear h; obtain ⟨y167, hy167⟩ : ∃ y_ : List (S85), y_ = (([] : List (S85))) := ⟨_, rfl⟩
 replace H : (spec_l7Segments.l0 k l0 y167 0) = some r := by first | (rw [hy167]; with_reducible exact H) | (have H2_ := (Option.bind_some _ _).symm.trans H; rw [hy167]; with_reducible exact H2_) | (have H2_ := (Option.bind_some _ _).symm.trans H; with_reducible exact H2_) | with_reducible exact H | (rw [hy167]; exact H) | exact H
 have Ny167 := Aside0.mk hy167; clear hy167; have H' := Aside0.mk H; clear H
 go_enter Try.func147, Try.ntmps147; go_wp2_with (first | ((with_reducible refine gate_dst (N := 5) rfl ?_); refine Kd.R_lit k85 _ 85 ?hg (N := 5) ?hd (xs := ([] : List (S85))) (inner := []) (ok := fun _ => True) (okp := fun _ => True) ?hr ?hp (fun _ hk => hk) trivial (Below.refl _ _) (Nat.le_refl _) (by simp) ?_; (case hd => rfl); (case hg => rfl); (case hr => first | (go_simp; done) | (go_simp; rfl)); (case hp => exact (Reps.none _ _)); intro v168 w2 ho3 hb hg_ hnew_; clear hg_ hnew_; (first | rw [← Ny167.out] at ho3 | (simp only [Int.reduceToNat] at ho3; rw [← Ny167.out] at ho3)); have HO169 := Aside0.mk (Kd.R_lower ho3 (below_size bz)); replace HB := Aside0.mk (below_step bz hb); clear hb ho3))
 go_loopg [3, 4] k (fun kq v3 v4 w' => ∃ (x3_1 : List (S85)) (x4_1 : Int), v4 = .int .i64 x4_1 ∧ Aside0 (spec_l7Segments.l0 kq l0 x3_1 x4_1 = some r) ∧ Aside0 (kq ≤ k) ∧ Aside0 (Kd.R k85 85 w' w.heap.size (fun _ => True) v3 x3_1) ∧ Aside0 (Below w.heap.size w w'))
 case atStart => exact ⟨(y167), (0), rz, H', ⟨Nat.le_refl _⟩, ⟨hr HO169.out⟩, ⟨bz⟩⟩
 case round =>
  clear H'; (try clear c1); (try clear p2); obtain ⟨x3_1, x4_1, rfl, HA, HK1, HO_3, HB⟩ := hrel
  cases gk with
  | zero => exact absurd HA.out (by simp [spec_l7Segments.l0])
  | succ k1 =>
   have H := HA.out; clear HA; simp only [spec_l7Segments.l0] at H
   by_cases c4 : x4_1 < (l0.length : Int)
   ·rw [if_pos c4] at H; have c4b0 := decide_eq_true c4; clear c4
    by_cases c5 : 0 ≤ x4_1
    ·rw [if_pos c5] at H; have c5b0 := decide_eq_true c5; clear c5
     by_cases c6 : (l0.length : Int) = 0
     ·rw [if_pos c6] at H
      exact absurd H (by simp)
     ·rw [if_neg c6] at H; have c6b0 : ((l0.length : Int) == 0) = false := beq_eq_false_iff_ne.mpr c6; have c6b1 : ((l0.length : Int) != 0) = true := bne_iff_ne.mpr c6; have c6b2 : ¬ (l0 = []) := fun h_ => c6 (by rw [h_]; rfl)
      obtain ⟨ji7, hji7⟩ : ∃ j_ : Int, (Int.tmod (wrap64 (x4_1 + 1)) (l0.length : Int)) = j_ := ⟨_, rfl⟩
      replace H : (if 0 ≤ (ji7) then (if (ji7) < (l0.length : Int) then (if x3_1.length < 4398046511104 then (spec_l7Segments.l0 k1 l0 (x3_1 ++ [(⟨(⟨(rd_T82 l0 x4_1).f0, (rd_T82 l0 x4_1).f1⟩ : S82), (⟨(rd_T82 l0 (ji7)).f0, (rd_T82 l0 (ji7)).f1⟩ : S82)⟩ : S85)]) (wrap64 (x4_1 + 1))) else (none)) else (none)) else (none)) = some r := by first | (rw [hji7] at H; exact H) | (simp only [hji7] at H ⊢; exact H)
      by_cases c8 : 0 ≤ (ji7)
      ·rw [if_pos c8] at H; have c8b0 := decide_eq_true c8; clear c8
       by_cases c9 : (ji7) < (l0.length : Int)
       ·rw [if_pos c9] at H; have c9b0 := decide_eq_true c9; clear c9
        by_cases c10 : x3_1.length < 4398046511104
        ·rw [if_pos c10] at H; have LMc10 := Aside0.mk c10; clear c10; obtain ⟨y172, hy172⟩ : ∃ y_ : List (S85), y_ = (x3_1 ++ [(⟨(⟨(rd_T82 l0 x4_1).f0, (rd_T82 l0 x4_1).f1⟩ : S82), (⟨(rd_T82 l0 (ji7)).f0, (rd_T82 l0 (ji7)).f1⟩ : S82)⟩ : S85)]) := ⟨_, rfl⟩
         replace H : (spec_l7Segments.l0 k1 l0 y172 (wrap64 (x4_1 + 1))) = some r := by first | (rw [hy172]; with_reducible exact H) | (have H2_ := (Option.bind_some _ _).symm.trans H; rw [hy172]; with_reducible exact H2_) | (have H2_ := (Option.bind_some _ _).symm.trans H; with_reducible exact H2_) | with_reducible exact H | (rw [hy172]; exact H) | exact H
         have Ny172 := Aside0.mk hy172; clear hy172; have H' := Aside0.mk H; clear H; (try go_wp2); replace HO_3 := Aside0.mk (Kd.R_drew HO_3.out); replace HB := Aside0.mk (below_drew1 HB.out); have p170 : 0 ≤ (x4_1 : Int) := of_decide_eq_true az; have q170 : x4_1 < (l0.length : Int) := of_decide_eq_true az; obtain ⟨ad170, e170, hx170_0, hx170_1⟩ := at_T82 HR0.out x4_1 p170 q170; have hw170_1 := hx170_1; have hw170_0 := hx170_0
         cases e170
         replace hx170_0 := xz HB hx170_0; replace hx170_1 := xz HB hx170_1; replace p170 := eq_true p170; replace q170 := eq_true q170; have p171 : 0 ≤ ((ji7) : Int) := of_decide_eq_true az; have q171 : (ji7) < (l0.length : Int) := of_decide_eq_true az; obtain ⟨ad171, e171, hx171_0, hx171_1⟩ := at_T82 HR0.out (ji7) p171 q171; have hw171_1 := hx171_1; have hw171_0 := hx171_0; obtain rfl : ad170 = ad171 := (by injection e171)
         replace hx171_0 := xz HB hx171_0; replace hx171_1 := xz HB hx171_1; replace p171 := eq_true p171; replace q171 := eq_true q171; refine start_ (n := 17) (S := fun w' => w'.cell? (ad170.add ((x4_1).toNat * 2)) = some (.int .i64 ((rd_T82 l0 x4_1).f0)) ∧ w'.cell? ⟨(ad170.add ((x4_1).toNat * 2)).block, (ad170.add ((x4_1).toNat * 2)).off + 1, none⟩ = some (.int .i64 ((rd_T82 l0 x4_1).f1)) ∧ w'.cell? (ad170.add (((ji7)).toNat * 2)) = some (.int .i64 ((rd_T82 l0 (ji7)).f0)) ∧ w'.cell? ⟨(ad170.add (((ji7)).toNat * 2)).block, (ad170.add (((ji7)).toNat * 2)).off + 1, none⟩ = some (.int .i64 ((rd_T82 l0 (ji7)).f1))) (ds := []) #[F,F,F,F,F,F,F,F,F,F,F,F,F,F,F,F,F] (by kernel_rfl) rfl rfl ⟨(xz HB hw170_0 :), (xz HB hw170_1 :), (xz HB hw171_0 :), (xz HB hw171_1 :)⟩ (fun hHeld => ?_); refine with_tabW spec_l7Segments.tab5 spec_l7Segments.bits5 (fun HT_ HW_ => ?_); generalize wr.drew = w11 at HO_3 HB hx170_0 hx170_1 hx171_0 hx171_1 hHeld ⊢; refine pz HT_ 0 12 ?_; refine pz HT_ 1 13 ?_; refine pz HT_ 2 14 ?_; refine pz HT_ 3 15 ?_; refine pz HT_ 5 17 ?_; refine pz HT_ 6 18 ?_; refine pz HT_ 7 19 ?_; refine pz HT_ 8 20 ?_; refine pz HT_ 9 21 ?_; refine pz HT_ 10 22 ?_; refine pz HT_ 11 23 ?_; refine tz4 HT_ HW_ hHeld 4 16 ?_; refine tz4 HT_ HW_ hHeld 12 24 ?_; refine pz HT_ 13 25 ?_; refine oz HT_ 14 (some 26) (fun K hK => ?_); refine value_ (w1 := ?_) (v := ?_) (by rfl) rfl ?_ ?_; rotate_left 2
         ·go_simp
          constructor
          ·rfl
          ·rfl
         refine hK.out _ _ ⟨(World.cell?_alloc_lt _ _ _ (World.block_lt_of_cell? _ _ ((xz HB hw170_0 :)))).trans ((xz HB hw170_0 :)), (World.cell?_alloc_lt _ _ _ (World.block_lt_of_cell? _ _ ((xz HB hw170_1 :)))).trans ((xz HB hw170_1 :)), (World.cell?_alloc_lt _ _ _ (World.block_lt_of_cell? _ _ ((xz HB hw171_0 :)))).trans ((xz HB hw171_0 :)), (World.cell?_alloc_lt _ _ _ (World.block_lt_of_cell? _ _ ((xz HB hw171_1 :)))).trans ((xz HB hw171_1 :))⟩ (fun hHeld => ?_); clear hK K; refine nz 26 ?_; refine oz HT_ 15 (some 27) (fun K hK => ?_); refine Kd.R_append_step k85 (w0 := w) w.heap.size (by rfl) (.tmp 12) (.tmp 26) 78 85 (.agg #[(.int .i64 0), (.int .i64 0), (.int .i64 0), (.int .i64 0)]) 32 rfl Try.underlying78 info85 rfl (by decide) (by omega) u3 x3_1 (⟨(⟨(rd_T82 l0 x4_1).f0, (rd_T82 l0 x4_1).f1⟩ : S82), (⟨(rd_T82 l0 (ji7)).f0, (rd_T82 l0 (ji7)).f1⟩ : S82)⟩ : S85) [.int .i64 ((rd_T82 l0 x4_1).f0), .int .i64 ((rd_T82 l0 x4_1).f1), .int .i64 ((rd_T82 l0 (ji7)).f0), .int .i64 ((rd_T82 l0 (ji7)).f1)] (fun _ => True) (fun _ => False) rfl rfl ?aP (fun _ hk => hk.elim) ?aF ?aO ?aB ?aS ?aL ?_
         (case aP => exact k85_mkM _ _ _ (⟨(⟨(rd_T82 l0 x4_1).f0, (rd_T82 l0 x4_1).f1⟩ : S82), (⟨(rd_T82 l0 (ji7)).f0, (rd_T82 l0 (ji7)).f1⟩ : S82)⟩ : S85))
         (case aB => exact bz)
         (case aF => exact (fun _ _ => trivial))
         (case aO => exact (hr HO_3.out))
         (case aS => exact (below_size bz))
         (case aL => have := LMc10.out; omega)
         intro v173 w12 ho hb hg hat; rw [← Ny172.out] at ho; have n0_ := Aside0.mk (hb); have n1_ := Aside0.mk (ho); clear HB; clear HO_3; have HB := n0_; have HO174 := n1_; clear n0_ n1_; clear ho hb hg hat; refine hK.out _ _ ⟨(xz HB hw170_0 :), (xz HB hw170_1 :), (xz HB hw171_0 :), (xz HB hw171_1 :)⟩ (fun hHeld => ?_); clear hK K; refine nz 27 ?_; refine pz HT_ 16 3 ?_; refine dz HT_ ?_; (try go_wp2)
         go_roundg k1
         case measure => have := HK1.out; omega
         case rel => exact ⟨(y172), (wrap64 (x4_1 + 1)), rz, H', ⟨by have := HK1.out; omega⟩, ⟨hr HO174.out⟩, ⟨bz⟩⟩
        ·rw [if_neg c10] at H
         exact absurd H (by simp)
       ·rw [if_neg c9] at H
        exact absurd H (by simp)
      ·rw [if_neg c8] at H
       exact absurd H (by simp)
    ·rw [if_neg c5] at H
     exact absurd H (by simp)
   ·rw [if_neg c4] at H; have c4b0 := decide_eq_false c4; clear c4; obtain rfl := Option.some.inj H; go_wp2; go_ret
    exact ⟨_, ez, hr HO_3.out, bz⟩

end Go.Proofs.Ytdfehjfmihokpaa.PFnExactAllPieces
