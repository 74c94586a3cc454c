-- Written by a program of this session's (evlaw.py).
import Derived.Test.YtdfehjfmihokpaaPFnExactIsChartx0
import Derived.Test.YtdfehjfmihokpaaEvX
import Derived.Test.YtdfehjfmihokpaaZ
import Derived.Test.YtdfehjfmihokpaaProg
import Derived.Below
import Derived.Deep.Draws
import Derived.Deep.AppendLies
import Derived.Maps.AppendAt
import Derived.OwnWalk
import Derived.Laws.BytesArg
import Derived.Laws.MakeOwn
import Derived.Laws.OwnMore
import Derived.Deep.OwnRows
import Derived.Tactics
import Derived.Lib.ConvBytes
import Derived.Laws.Slices
import Derived.WalkKit
import Derived.KernelRfl
import Derived.RowKit3
import Derived.Deep.LoopGhost
import Derived.Deep.QuietTactic
import Derived.BigQuiet
import Derived.WideLaws
import Derived.Deep.DeepCutAuto
import Derived.Deep.CutBlock
import Derived.Deep.RegionHeld3
import Derived.Laws.Rows
import Derived.Lib.AppendStr
import Derived.ArgAppend
import Derived.Laws.IdiomCopy
import Derived.OrdersHeld
import Derived.Laws.BitsLemmas
import Derived.RowKit
import Derived.Test.YtdfehjfmihokpaaGeo
import Derived.Test.YtdfehjfmihokpaaHand
import Derived.Test.YtdfehjfmihokpaaMeet
import Derived.Test.YtdfehjfmihokpaaQuiet
import Derived.Test.YtdfehjfmihokpaaWWords
import Derived.Test.YtdfehjfmihokpaaWLast
import Derived.Test.YtdfehjfmihokpaaWTab
import Derived.Test.YtdfehjfmihokpaaWFour
import Derived.Test.YtdfehjfmihokpaaWQPut
import Derived.Test.YtdfehjfmihokpaaWApart
import Derived.Test.YtdfehjfmihokpaaWArr
import Derived.Test.YtdfehjfmihokpaaWZeros
import Derived.Test.YtdfehjfmihokpaaWFoot
import Derived.Test.YtdfehjfmihokpaaWKept
import Derived.Test.YtdfehjfmihokpaaWShare
import Derived.Test.YtdfehjfmihokpaaWN
import Derived.Test.YtdfehjfmihokpaaWFootNe
import Derived.Test.YtdfehjfmihokpaaWAt
import Derived.Test.YtdfehjfmihokpaaWEqStruct
import Derived.Test.YtdfehjfmihokpaaWRepsOne
import Derived.Test.YtdfehjfmihokpaaWInv
import Derived.Test.YtdfehjfmihokpaaWInvWords
import Derived.Test.YtdfehjfmihokpaaWGuard
import Derived.Test.YtdfehjfmihokpaaWNEv
import Derived.Test.YtdfehjfmihokpaaWMore
namespace Go.Proofs.Ytdfehjfmihokpaa.PFnExactIsChart
open Go.RowKit Go.Proofs.YtdfehjfmihokpaaW.PrintWords Go.Proofs.YtdfehjfmihokpaaW.PrintLast Go.Proofs.YtdfehjfmihokpaaW.PrintMore Go.Proofs.YtdfehjfmihokpaaGeo Go.Proofs.YtdfehjfmihokpaaHand Go.Proofs.YtdfehjfmihokpaaMeet Go.Proofs.YtdfehjfmihokpaaQuiet Go.Proofs.YtdfehjfmihokpaaZ
open Go Go.Proofs.YtdfehjfmihokpaaEv
attribute [local go_sem] max2_int min2_int max_two min_two max_three min_three max_four min_four   -- for this text's walks alone
set_option linter.unusedVariables false
set_option linter.unusedSimpArgs false



set_option linter.unusedSimpArgs false

attribute [local go_sem high] eqA82
set_option linter.unusedVariables false
set_option linter.unusedSimpArgs false
set_option maxRecDepth 100000
noncomputable section
theorem spec_l1In.any (a0 : Int) (a1 : Int) (a2 : Int) (w : World) :
    Calls Try.prog 71 #[.int .i64 a0, .int .i64 a1, .int .i64 a2] w fun e w' => e = .returned (.bool (inR a0 a1 a2)) ∧ w = w' := by
  go_enter Try.func71, Try.ntmps71; go_wp2
  all_goals (go_ret; refine ⟨?_, rfl⟩; congr 2; first | (simp [inR, *]; done) | (simp [inR, *] <;> omega) | (unfold inR; repeat' split <;> first | rfl | omega))
theorem spec_l1In.calls (a0 : Int) (a1 : Int) (a2 : Int) (r : Bool) (w : World) (h : spec_l1In.f a0 a1 a2 = some r) :
    Calls Try.prog 71 #[.int .i64 a0, .int .i64 a1, .int .i64 a2] w fun e w' => e = .returned (.bool (r)) ∧ ∃ nd_ : Nat, w = w' := by
  obtain rfl := Option.some.inj h
  exact (spec_l1In.any a0 a1 a2 w).mono fun e w' ⟨he, hw⟩ => ⟨he, 0, hw⟩
theorem spec_Max.any (a0 : Int) (a1 : Int) (w : World) :
    Calls Try.prog 108 #[.int .i64 a0, .int .i64 a1] w fun e w' => e = .returned (.int .i64 (mx a0 a1)) ∧ w = w' := by
  go_enter Try.func108, Try.ntmps108; go_wp2
  all_goals (go_ret; refine ⟨?_, rfl⟩; congr 2; unfold mx; repeat' split <;> first | rfl | omega)
theorem spec_Max.calls (a0 : Int) (a1 : Int) (r : Int) (w : World) (h : spec_Max.f a0 a1 = some r) :
    Calls Try.prog 108 #[.int .i64 a0, .int .i64 a1] w fun e w' => e = .returned (.int .i64 (r)) ∧ ∃ nd_ : Nat, w = w' := by
  obtain rfl := Option.some.inj h
  exact (spec_Max.any a0 a1 w).mono fun e w' ⟨he, hw⟩ => ⟨he, 0, hw⟩
theorem spec_Min.any (a0 : Int) (a1 : Int) (w : World) :
    Calls Try.prog 140 #[.int .i64 a0, .int .i64 a1] w fun e w' => e = .returned (.int .i64 (mn a0 a1)) ∧ w = w' := by
  go_enter Try.func140, Try.ntmps140; go_wp2
  all_goals (go_ret; refine ⟨?_, rfl⟩; congr 2; unfold mn; repeat' split <;> first | rfl | omega)
theorem spec_Min.calls (a0 : Int) (a1 : Int) (r : Int) (w : World) (h : spec_Min.f a0 a1 = some r) :
    Calls Try.prog 140 #[.int .i64 a0, .int .i64 a1] w fun e w' => e = .returned (.int .i64 (r)) ∧ ∃ nd_ : Nat, w = w' := by
  obtain rfl := Option.some.inj h
  exact (spec_Min.any a0 a1 w).mono fun e w' ⟨he, hw⟩ => ⟨he, 0, hw⟩
theorem spec_IsPoint.any (a0_0 : Int) (a0_1 : Int) (w : World) :
    Calls Try.prog 117 #[.agg #[.int .i64 a0_0, .int .i64 a0_1]] w fun e w' => e = .returned (.bool (isPt a0_0 a0_1)) ∧ Below w.heap.size w w' := by
  have HB := Aside0.mk (Below.refl w.heap.size w)
  go_enter Try.func117, Try.ntmps117; go_wp2_with (first
    | (go_at_call 71; refine (spec_l1In.any _ _ _ _).mono ?_; rintro e w1 ⟨rfl, rfl⟩))
  all_goals (go_ret; refine ⟨?_, by repeat (first | (with_reducible first | exact HB.out | apply below_alloc | apply below_drew1 | apply pw_below_drewN) | exact HB.out)⟩; clear HB; congr 2; simp [isPt, *])
theorem spec_IsPoint.calls (a0_0 : Int) (a0_1 : Int) (r : Bool) (w : World) (h : spec_IsPoint.f a0_0 a0_1 = some r) :
    Calls Try.prog 117 #[.agg #[.int .i64 a0_0, .int .i64 a0_1]] w fun e w' => e = .returned (.bool (r)) ∧ Below w.heap.size w w' := by
  obtain rfl := Option.some.inj h
  exact (spec_IsPoint.any a0_0 a0_1 w).mono fun e w' ⟨he, hw⟩ => ⟨he, hw⟩
theorem spec_IsSegment.any (a0_0 : Int) (a0_1 : Int) (a0_2 : Int) (a0_3 : Int) (w : World) :
    Calls Try.prog 148 #[.agg #[.int .i64 a0_0, .int .i64 a0_1, .int .i64 a0_2, .int .i64 a0_3]] w fun e w' => e = .returned (.bool (isSeg a0_0 a0_1 a0_2 a0_3)) ∧ Below w.heap.size w w' := by
  have HB := Aside0.mk (Below.refl w.heap.size w)
  go_enter Try.func148, Try.ntmps148; go_wp2_with (first
    | (go_at_call 117; refine (spec_IsPoint.any _ _ _).mono ?_; rintro e w1 ⟨rfl, hb⟩; have n0 := Aside0.mk (below_step (by repeat (first | (with_reducible first | exact HB.out | apply below_alloc | apply below_drew1 | apply pw_below_drewN) | exact HB.out)) hb); clear HB; have HB := n0; clear n0; obtain ⟨hc, hf⟩ := bcell hb; have hz0 : w.heap.size < w1.heap.size := (by have := hb.size; (try simp at this); omega); clear hb))
  all_goals (go_ret; refine ⟨?_, by repeat (first | (with_reducible first | exact HB.out | apply below_alloc | apply below_drew1 | apply pw_below_drewN) | exact HB.out)⟩; clear HB; congr 2; unfold isSeg; first | (simp_all; done) | (simp_all; rfl))
theorem spec_IsSegment.calls (a0_0 : Int) (a0_1 : Int) (a0_2 : Int) (a0_3 : Int) (r : Bool) (w : World) (h : spec_IsSegment.f a0_0 a0_1 a0_2 a0_3 = some r) :
    Calls Try.prog 148 #[.agg #[.int .i64 a0_0, .int .i64 a0_1, .int .i64 a0_2, .int .i64 a0_3]] w fun e w' => e = .returned (.bool (r)) ∧ Below w.heap.size w w' := by
  obtain rfl := Option.some.inj h
  exact (spec_IsSegment.any a0_0 a0_1 a0_2 a0_3 w).mono fun e w' ⟨he, hw⟩ => ⟨he, hw⟩
theorem spec_l4Cross.any (a0_0 : Int) (a0_1 : Int) (a1_0 : Int) (a1_1 : Int) (a2_0 : Int) (a2_1 : Int) (w : World) :
    Calls Try.prog 107 #[.agg #[.int .i64 a0_0, .int .i64 a0_1], .agg #[.int .i64 a1_0, .int .i64 a1_1], .agg #[.int .i64 a2_0, .int .i64 a2_1]] w fun e w' => e = .returned (.int .i64 (crossI a0_0 a0_1 a1_0 a1_1 a2_0 a2_1)) ∧ Below w.heap.size w w' := by
  have HB := Aside0.mk (Below.refl w.heap.size w)
  go_enter Try.func107, Try.ntmps107; go_wp2
  all_goals (go_ret; refine ⟨?_, by repeat (first | (with_reducible first | exact HB.out | apply below_alloc | apply below_drew1 | apply pw_below_drewN) | exact HB.out)⟩; clear HB; rfl)
set_option maxHeartbeats 4000000 in
theorem spec_SideOf.any (a0_0 : Int) (a0_1 : Int) (a1_0 : Int) (a1_1 : Int) (a2_0 : Int) (a2_1 : Int) (w : World) :
    Calls Try.prog 164 #[.agg #[.int .i64 a0_0, .int .i64 a0_1], .agg #[.int .i64 a1_0, .int .i64 a1_1], .agg #[.int .i64 a2_0, .int .i64 a2_1]] w fun e w' => e = .returned (.int .i64 (sideI a0_0 a0_1 a1_0 a1_1 a2_0 a2_1)) ∧ Below w.heap.size w w' := by
  have HB := Aside0.mk (Below.refl w.heap.size w)
  go_enter Try.func164, Try.ntmps164; go_wp2_with (first
    | (go_at_call 117; refine (spec_IsPoint.any _ _ _).mono ?_; rintro e w1 ⟨rfl, hb⟩; have n0 := Aside0.mk (below_step (by repeat (first | (with_reducible first | exact HB.out | apply below_alloc | apply below_drew1 | apply pw_below_drewN) | exact HB.out)) hb); clear HB; have HB := n0; clear n0; obtain ⟨hc, hf⟩ := bcell hb; have hz0 : w.heap.size < w1.heap.size := (by have := hb.size; (try simp at this); omega); have hz1 : w.heap.size + 1 < w1.heap.size := (by have := hb.size; (try simp at this); omega); have hz2 : w.heap.size + 1 + 1 < w1.heap.size := (by have := hb.size; (try simp at this); omega); clear hb)
    | (go_at_call 107; refine (spec_l4Cross.any _ _ _ _ _ _ _).mono ?_; rintro e w1 ⟨rfl, hb⟩; have n0 := Aside0.mk (below_step (by repeat (first | (with_reducible first | exact HB.out | apply below_alloc | apply below_drew1 | apply pw_below_drewN) | exact HB.out)) hb); clear HB; have HB := n0; clear n0; obtain ⟨hc, hf⟩ := bcell hb; have hz0 : w.heap.size < w1.heap.size := (by have := hb.size; (try simp at this); omega); have hz1 : w.heap.size + 1 < w1.heap.size := (by have := hb.size; (try simp at this); omega); have hz2 : w.heap.size + 1 + 1 < w1.heap.size := (by have := hb.size; (try simp at this); omega); clear hb))
  all_goals (go_ret; refine ⟨?_, by repeat (first | (with_reducible first | exact HB.out | apply below_alloc | apply below_drew1 | apply pw_below_drewN) | exact HB.out)⟩; clear HB; congr 2; unfold sideI cmpI; (repeat' split) <;> simp_all <;> omega)
set_option maxHeartbeats 8000000 in
theorem spec_IsOn.wlk (a b c d e f x : Int) (s p i j : Bool) (hs : isSeg a b c d = s) (hp : isPt e f = p) (hx : crossI a b c d e f = x) (hi : inR e (mn a c) (mx a c) = i) (hj : inR f (mn b d) (mx b d) = j) (w : World) :
    Calls Try.prog 173 #[.agg #[.int .i64 a, .int .i64 b, .int .i64 c, .int .i64 d], .agg #[.int .i64 e, .int .i64 f]] w fun e w' => e = .returned (.bool (s && p && decide (x = 0) && i && j)) ∧ Below w.heap.size w w' := by
  have HB := Aside0.mk (Below.refl w.heap.size w); have hC : s = false ∨ (s = true ∧ p = false) ∨ (s = true ∧ p = true ∧ x ≠ 0) ∨ (s = true ∧ p = true ∧ x = 0 ∧ i = false) ∨ (s = true ∧ p = true ∧ x = 0 ∧ i = true) := by
    by_cases x = 0 <;> cases s <;> cases p <;> cases i <;> simp [*]
  go_enter Try.func173, Try.ntmps173; go_wp2; have hS := Aside0.mk (two1 w (.cells #[.int .i64 a, .int .i64 b, .int .i64 c, .int .i64 d] 85) (.cells #[.int .i64 e, .int .i64 f] 82)); have hT := Aside0.mk (two2 w (.cells #[.int .i64 a, .int .i64 b, .int .i64 c, .int .i64 d] 85) (.cells #[.int .i64 e, .int .i64 f] 82)); refine wq_region (by kernel_rfl) (by kernel_rfl) ?_; obtain ⟨m0, m1, m2, m3⟩ := q4 hS.out; obtain ⟨l0, l1⟩ := q2 hT.out
  rcases hC with rfl | ⟨rfl, rfl⟩ | ⟨rfl, rfl, hx0⟩ | ⟨rfl, rfl, rfl, rfl⟩ | ⟨rfl, rfl, rfl, rfl⟩
  case' inr.inr.inl =>
    have z1 : (x == 0) = false := by simpa using hx0
    have z2 : decide (x = 0) = false := by simpa using hx0
    have z3 : (x = 0) = False := eq_false hx0; clear hx0
  all_goals
    iterate 54 (refine wq_step (fun K hK => ?_); go_simp; first | (refine hK _ ?_; clear hK K) | (apply Exists.intro; refine ⟨fun _ => ?_, hK _ ?_⟩; (first | exact qc (fun W => spec_IsSegment.any _ _ _ _ W) _ _ | exact qc (fun W => spec_IsPoint.any _ _ W) _ _ | exact qc (fun W => spec_l4Cross.any _ _ _ _ _ _ W) _ _ | exact qs (fun W => spec_Min.any _ _ W) _ _ | exact qs (fun W => spec_Max.any _ _ W) _ _ | exact qs (fun W => spec_l1In.any _ _ _ W) _ _); clear hK K))
    refine wq_nil ?_; intro w1 hb; replace HB := Aside0.mk (below_step (below_alloc (below_alloc HB.out _) _) hb); clear m0 m1 m2 m3 l0 l1 hS hT hb; go_wp2; go_ret
    exact ⟨by first | rfl | (simp; done) | (simp [z2]; done), HB.out⟩
theorem spec_IsOn.any (a b c d e f : Int) (w : World) :
    Calls Try.prog 173 #[.agg #[.int .i64 a, .int .i64 b, .int .i64 c, .int .i64 d], .agg #[.int .i64 e, .int .i64 f]] w fun e_ w' => e_ = .returned (.bool (isOnI a b c d e f)) ∧ Below w.heap.size w w' := by
  refine (spec_IsOn.wlk a b c d e f _ _ _ _ _ rfl rfl rfl rfl rfl w).mono ?_; rintro e_ w' ⟨rfl, hb⟩; refine ⟨?_, hb⟩
  congr 2
  unfold isOnI
  cases h1 : isSeg a b c d
  · rfl
  · cases h2 : isPt e f
    · rfl
    · have h3 := h1
      unfold isSeg at h3
      simp only [Bool.and_eq_true] at h3; have e1 : sideI a b c d e f = cmpI (crossI a b c d e f) 0 := by unfold sideI; rw [h3.1.1, h3.1.2, h2]; rfl
      rw [e1, decide_eq_decide.mpr (by rw [cmp_zero] : cmpI (crossI a b c d e f) 0 = 0 ↔ crossI a b c d e f = 0)]
theorem spec_IsOn.calls (a0_0 : Int) (a0_1 : Int) (a0_2 : Int) (a0_3 : Int) (a1_0 : Int) (a1_1 : Int) (r : Bool) (w : World) (h : spec_IsOn.f a0_0 a0_1 a0_2 a0_3 a1_0 a1_1 = some r) :
    Calls Try.prog 173 #[.agg #[.int .i64 a0_0, .int .i64 a0_1, .int .i64 a0_2, .int .i64 a0_3], .agg #[.int .i64 a1_0, .int .i64 a1_1]] w fun e w' => e = .returned (.bool (r)) ∧ Below w.heap.size w w' := by
  obtain rfl := Option.some.inj h
  exact spec_IsOn.any a0_0 a0_1 a0_2 a0_3 a1_0 a1_1 w
theorem spec_HowMeet.no1 (a b c d e f g h : Int) (hs : isSeg a b c d = false) (w : World) : Calls Try.prog 145 #[.agg #[.int .i64 a, .int .i64 b, .int .i64 c, .int .i64 d], .agg #[.int .i64 e, .int .i64 f, .int .i64 g, .int .i64 h]] w fun e w' => e = .returned (.int .i64 0) ∧ Below w.heap.size w w' := by
  have ht : True := trivial; have HB := Aside0.mk (Below.refl w.heap.size w)
  go_enter Try.func145, Try.ntmps145; go_wp2_with (first | (go_at_call 148; refine (spec_IsSegment.any _ _ _ _ _).mono ?_; rintro e w1 ⟨rfl, hb⟩; simp only [hs, ht]; have n0 := Aside0.mk (below_step (by repeat (first | (with_reducible first | exact HB.out | apply below_alloc | apply below_drew1 | apply pw_below_drewN) | exact HB.out)) hb); clear HB; have HB := n0; clear n0; (first | (have n1 := Aside0.mk (blk_below hS.out hb); have n2 := Aside0.mk (blk_below hT.out hb); clear hS hT; have hS := n1; have hT := n2; clear n1 n2) | (have hS := Aside0.mk (blk_below (two1 w _ _) hb); have hT := Aside0.mk (blk_below (two2 w _ _) hb))); clear hb; obtain ⟨k0, k1, k2, k3⟩ := c4 hS.out; obtain ⟨j0, j1, j2, j3⟩ := c4 hT.out)); go_ret
  exact ⟨rfl, HB.out⟩
theorem spec_HowMeet.no2 (a b c d e f g h : Int) (hs : isSeg a b c d = true) (ht : isSeg e f g h = false) (w : World) : Calls Try.prog 145 #[.agg #[.int .i64 a, .int .i64 b, .int .i64 c, .int .i64 d], .agg #[.int .i64 e, .int .i64 f, .int .i64 g, .int .i64 h]] w fun e w' => e = .returned (.int .i64 0) ∧ Below w.heap.size w w' := by
  have HB := Aside0.mk (Below.refl w.heap.size w)
  go_enter Try.func145, Try.ntmps145; go_wp2_with (first | (go_at_call 148; refine (spec_IsSegment.any _ _ _ _ _).mono ?_; rintro e w1 ⟨rfl, hb⟩; simp only [hs, ht]; have n0 := Aside0.mk (below_step (by repeat (first | (with_reducible first | exact HB.out | apply below_alloc | apply below_drew1 | apply pw_below_drewN) | exact HB.out)) hb); clear HB; have HB := n0; clear n0; (first | (have n1 := Aside0.mk (blk_below hS.out hb); have n2 := Aside0.mk (blk_below hT.out hb); clear hS hT; have hS := n1; have hT := n2; clear n1 n2) | (have hS := Aside0.mk (blk_below (two1 w _ _) hb); have hT := Aside0.mk (blk_below (two2 w _ _) hb))); clear hb; obtain ⟨k0, k1, k2, k3⟩ := c4 hS.out; obtain ⟨j0, j1, j2, j3⟩ := c4 hT.out)); go_ret
  exact ⟨rfl, HB.out⟩
set_option maxHeartbeats 8000000 in
set_option maxRecDepth 100000 in
theorem spec_HowMeet.wlk (a b c d e f g h x1 x2 x3 x4 y z sh : Int) (z1 z2 z3 z4 : Bool) (hs : isSeg a b c d = true) (ht : isSeg e f g h = true) (hx1 : sideI a b c d e f = x1) (hx2 : sideI a b c d g h = x2) (hx3 : sideI e f g h a b = x3) (hx4 : sideI e f g h c d = x4)
    (f1 : IntKind.i64.wrap (x1 * x2) = y) (f2 : IntKind.i64.wrap (x3 * x4) = z) (c1 : decide (mx a c < mn e g) = z1) (c2 : decide (mx e g < mn a c) = z2) (c3 : decide (mx b d < mn f h) = z3) (c4_ : decide (mx f h < mn b d) = z4) (hy : y = -1 ∨ y = 0 ∨ y = 1) (hz : z = -1 ∨ z = 0 ∨ z = 1)
    (hsh : ∀ W : World, Calls Try.prog 168 #[.agg #[.int .i64 a, .int .i64 b, .int .i64 c, .int .i64 d], .agg #[.int .i64 e, .int .i64 f, .int .i64 g, .int .i64 h]] W fun e w' => e = .returned (.int .i64 sh) ∧ Below W.heap.size W w') (w : World) :
    Calls Try.prog 145 #[.agg #[.int .i64 a, .int .i64 b, .int .i64 c, .int .i64 d], .agg #[.int .i64 e, .int .i64 f, .int .i64 g, .int .i64 h]] w fun e w' => e = .returned (.int .i64 (if (z1 || z2 || z3 || z4) = true then 0 else if sh = 0 then (if y < 0 ∧ z < 0 then 2 else 0) else if sh = 1 then 1 else 3)) ∧ Below w.heap.size w w' := by
  have hQ : (y = -1 ∧ z = -1) ∨ y = 0 ∨ y = 1 ∨ (y = -1 ∧ z = 0) ∨ (y = -1 ∧ z = 1) := by omega
  have hZ : z1 = true ∨ (z1 = false ∧ z2 = true) ∨ (z1 = false ∧ z2 = false ∧ z3 = true) ∨ (z1 = false ∧ z2 = false ∧ z3 = false ∧ z4 = true) ∨ (z1 = false ∧ z2 = false ∧ z3 = false ∧ z4 = false) := by cases z1 <;> cases z2 <;> cases z3 <;> cases z4 <;> simp
  have hN : sh = 0 ∨ sh = 1 ∨ ((sh == 0) = false ∧ (sh == 1) = false ∧ decide (sh = 0) = false ∧ decide (sh = 1) = false ∧ (sh = 0) = False ∧ (sh = 1) = False) := by
    by_cases h0 : sh = 0
    · exact .inl h0
    · by_cases h1 : sh = 1
      · exact .inr (.inl h1)
      · exact .inr (.inr (by simp [h0, h1]))
  clear hy hz; have r1 : (mx a c < mn e g) = (z1 = true) := by rw [← c1]; simp
  have r2 : (mx e g < mn a c) = (z2 = true) := by rw [← c2]; simp
  have r3 : (mx b d < mn f h) = (z3 = true) := by rw [← c3]; simp
  have r4 : (mx f h < mn b d) = (z4 = true) := by rw [← c4_]; simp
  have HB := Aside0.mk (Below.refl w.heap.size w)
  go_enter Try.func145, Try.ntmps145; go_wp2_with (first | (go_at_call 148; refine (spec_IsSegment.any _ _ _ _ _).mono ?_; rintro e w1 ⟨rfl, hb⟩; simp only [hs, ht]; have n0 := Aside0.mk (below_step (by repeat (first | (with_reducible first | exact HB.out | apply below_alloc | apply below_drew1 | apply pw_below_drewN) | exact HB.out)) hb); clear HB; have HB := n0; clear n0; (first | (have n1 := Aside0.mk (blk_below hS.out hb); have n2 := Aside0.mk (blk_below hT.out hb); clear hS hT; have hS := n1; have hT := n2; clear n1 n2) | (have hS := Aside0.mk (blk_below (two1 w _ _) hb); have hT := Aside0.mk (blk_below (two2 w _ _) hb))); clear hb; obtain ⟨k0, k1, k2, k3⟩ := c4 hS.out; obtain ⟨j0, j1, j2, j3⟩ := c4 hT.out))
  rcases hZ with rfl | ⟨rfl, rfl⟩ | ⟨rfl, rfl, rfl⟩ | ⟨rfl, rfl, rfl, rfl⟩ | ⟨rfl, rfl, rfl, rfl⟩
  all_goals
    simp only [Bool.false_eq_true] at r1 r2 r3 r4; refine wq_region (by kernel_rfl) (by kernel_rfl) ?_; obtain ⟨m0, m1, m2, m3⟩ := q4 hS.out; obtain ⟨l0, l1, l2, l3⟩ := q4 hT.out
    iterate 66 (refine wq_step (fun K hK => ?_); go_simp; first | (refine hK _ ?_; clear hK K) | (apply Exists.intro; refine ⟨fun _ => ?_, hK _ ?_⟩; (first | exact qs (fun W => spec_Min.any _ _ W) _ _ | exact qs (fun W => spec_Max.any _ _ W) _ _); clear hK K))
    refine wq_nil ?_; intro w4 hb; clear m0 m1 m2 m3 l0 l1 l2 l3 k0 k1 k2 k3 j0 j1 j2 j3; have n0 := Aside0.mk (below_step HB.out hb); have n1 := Aside0.mk (blk_below hS.out hb); have n2 := Aside0.mk (blk_below hT.out hb); clear HB hS hT hb; have HB := n0; have hS := n1; have hT := n2; clear n0 n1 n2; obtain ⟨k0, k1, k2, k3⟩ := c4 hS.out; obtain ⟨j0, j1, j2, j3⟩ := c4 hT.out; clear c1 c2 c3 c4_ r1 r2 r3 r4
  · (go_wp2; go_ret; exact ⟨rfl, HB.out⟩)
  · (go_wp2; go_ret; exact ⟨rfl, HB.out⟩)
  · (go_wp2; go_ret; exact ⟨rfl, HB.out⟩)
  · (go_wp2; go_ret; exact ⟨rfl, HB.out⟩)
  rcases hN with rfl | rfl | ⟨v1, v2, v3, v4, v5, v6⟩
  · go_wp2_with (first | (go_at_call 168; refine (hsh _).mono ?_; rintro e w1 ⟨rfl, hb⟩; clear k0 k1 k2 k3 j0 j1 j2 j3; have n0 := Aside0.mk (below_step HB.out hb); have n1 := Aside0.mk (blk_below hS.out hb); have n2 := Aside0.mk (blk_below hT.out hb); clear HB hS hT hb; have HB := n0; have hS := n1; have hT := n2; clear n0 n1 n2; obtain ⟨k0, k1, k2, k3⟩ := c4 hS.out; obtain ⟨j0, j1, j2, j3⟩ := c4 hT.out)); clear hsh
    rcases hQ with ⟨rfl, rfl⟩ | rfl | rfl | ⟨rfl, rfl⟩ | ⟨rfl, rfl⟩
    all_goals
      refine wq_region (by kernel_rfl) (by kernel_rfl) ?_; obtain ⟨m0, m1, m2, m3⟩ := q4 hS.out; obtain ⟨l0, l1, l2, l3⟩ := q4 hT.out
      iterate 34 (refine wq_step (fun K hK => ?_); go_simp; first | (refine hK _ ?_; clear hK K) | (apply Exists.intro; refine ⟨fun _ => ?_, hK _ ?_⟩; (exact qc (fun W => spec_SideOf.any _ _ _ _ _ _ W) _ _); clear hK K))
      refine wq_nil ?_; intro w6 hb; clear m0 m1 m2 m3 l0 l1 l2 l3 k0 k1 k2 k3 j0 j1 j2 j3; have n0 := Aside0.mk (below_step HB.out hb); have n1 := Aside0.mk (blk_below hS.out hb); have n2 := Aside0.mk (blk_below hT.out hb); clear HB hS hT hb; have HB := n0; have hS := n1; have hT := n2; clear n0 n1 n2; obtain ⟨k0, k1, k2, k3⟩ := c4 hS.out; obtain ⟨j0, j1, j2, j3⟩ := c4 hT.out; go_wp2; go_ret
      exact ⟨rfl, HB.out⟩
  · clear hQ; go_wp2_with (first | (go_at_call 168; refine (hsh _).mono ?_; rintro e w1 ⟨rfl, hb⟩; clear k0 k1 k2 k3 j0 j1 j2 j3; have n0 := Aside0.mk (below_step HB.out hb); have n1 := Aside0.mk (blk_below hS.out hb); have n2 := Aside0.mk (blk_below hT.out hb); clear HB hS hT hb; have HB := n0; have hS := n1; have hT := n2; clear n0 n1 n2; obtain ⟨k0, k1, k2, k3⟩ := c4 hS.out; obtain ⟨j0, j1, j2, j3⟩ := c4 hT.out)); go_ret
    exact ⟨rfl, HB.out⟩
  · clear hQ; go_wp2_with (first | (go_at_call 168; refine (hsh _).mono ?_; rintro e w1 ⟨rfl, hb⟩; clear k0 k1 k2 k3 j0 j1 j2 j3; have n0 := Aside0.mk (below_step HB.out hb); have n1 := Aside0.mk (blk_below hS.out hb); have n2 := Aside0.mk (blk_below hT.out hb); clear HB hS hT hb; have HB := n0; have hS := n1; have hT := n2; clear n0 n1 n2; obtain ⟨k0, k1, k2, k3⟩ := c4 hS.out; obtain ⟨j0, j1, j2, j3⟩ := c4 hT.out)); go_ret
    exact ⟨by simp [v5, v6], HB.out⟩
theorem impl_InRange.any (a0 : Int) (a1 : Int) (a2 : Int) (w : World) :
    Calls Try.prog 112 #[.int .i64 a0, .int .i64 a1, .int .i64 a2] w fun e w' => e = .returned (.bool (inR a0 a1 a2)) ∧ w = w' := by
  go_enter Try.func112, Try.ntmps112; go_wp2
  all_goals (go_ret; refine ⟨?_, rfl⟩; congr 2; first | (simp [inR, *]; done) | (simp [inR, *] <;> omega) | (unfold inR; repeat' split <;> first | rfl | omega))
theorem impl_InRange.calls (a0 : Int) (a1 : Int) (a2 : Int) (r : Bool) (w : World) (h : impl_InRange.f a0 a1 a2 = some r) :
    Calls Try.prog 112 #[.int .i64 a0, .int .i64 a1, .int .i64 a2] w fun e w' => e = .returned (.bool (r)) ∧ ∃ nd_ : Nat, w = w' := by
  obtain rfl := Option.some.inj h
  exact (impl_InRange.any a0 a1 a2 w).mono fun e w' ⟨he, hw⟩ => ⟨he, 0, hw⟩
theorem impl_IsPoint.any (a0_0 : Int) (a0_1 : Int) (w : World) :
    Calls Try.prog 123 #[.agg #[.int .i64 a0_0, .int .i64 a0_1]] w fun e w' => e = .returned (.bool (isPt a0_0 a0_1)) ∧ Below w.heap.size w w' := by
  have HB := Aside0.mk (Below.refl w.heap.size w)
  go_enter Try.func123, Try.ntmps123; go_wp2_with (first
    | (go_at_call 112; refine (impl_InRange.any _ _ _ _).mono ?_; rintro e w1 ⟨rfl, rfl⟩))
  all_goals (go_ret; refine ⟨?_, by repeat (first | (with_reducible first | exact HB.out | apply below_alloc | apply below_drew1 | apply pw_below_drewN) | exact HB.out)⟩; clear HB; congr 2; simp [isPt, *])
theorem impl_IsPoint.calls (a0_0 : Int) (a0_1 : Int) (r : Bool) (w : World) (h : impl_IsPoint.f a0_0 a0_1 = some r) :
    Calls Try.prog 123 #[.agg #[.int .i64 a0_0, .int .i64 a0_1]] w fun e w' => e = .returned (.bool (r)) ∧ Below w.heap.size w w' := by
  obtain rfl := Option.some.inj h
  exact (impl_IsPoint.any a0_0 a0_1 w).mono fun e w' ⟨he, hw⟩ => ⟨he, hw⟩
theorem impl_IsSegment.any (a0_0 : Int) (a0_1 : Int) (a0_2 : Int) (a0_3 : Int) (w : World) :
    Calls Try.prog 151 #[.agg #[.int .i64 a0_0, .int .i64 a0_1, .int .i64 a0_2, .int .i64 a0_3]] w fun e w' => e = .returned (.bool (isSeg a0_0 a0_1 a0_2 a0_3)) ∧ Below w.heap.size w w' := by
  have HB := Aside0.mk (Below.refl w.heap.size w)
  go_enter Try.func151, Try.ntmps151; go_wp2_with (first
    | (go_at_call 123; refine (impl_IsPoint.any _ _ _).mono ?_; rintro e w1 ⟨rfl, hb⟩; have n0 := Aside0.mk (below_step (by repeat (first | (with_reducible first | exact HB.out | apply below_alloc | apply below_drew1 | apply pw_below_drewN) | exact HB.out)) hb); clear HB; have HB := n0; clear n0; obtain ⟨hc, hf⟩ := bcell hb; have hz0 : w.heap.size < w1.heap.size := (by have := hb.size; (try simp at this); omega); clear hb))
  all_goals (go_ret; refine ⟨?_, by repeat (first | (with_reducible first | exact HB.out | apply below_alloc | apply below_drew1 | apply pw_below_drewN) | exact HB.out)⟩; clear HB; congr 2; unfold isSeg; first | (simp_all; done) | (simp_all; rfl))
theorem impl_IsSegment.calls (a0_0 : Int) (a0_1 : Int) (a0_2 : Int) (a0_3 : Int) (r : Bool) (w : World) (h : impl_IsSegment.f a0_0 a0_1 a0_2 a0_3 = some r) :
    Calls Try.prog 151 #[.agg #[.int .i64 a0_0, .int .i64 a0_1, .int .i64 a0_2, .int .i64 a0_3]] w fun e w' => e = .returned (.bool (r)) ∧ Below w.heap.size w w' := by
  obtain rfl := Option.some.inj h
  exact (impl_IsSegment.any a0_0 a0_1 a0_2 a0_3 w).mono fun e w' ⟨he, hw⟩ => ⟨he, hw⟩
theorem cmp_isNaN_int.any (a0 : Int) (w : World) :
    Calls Try.prog 156 #[.int .i64 a0] w fun e w' => e = .returned (.bool (false)) ∧ w = w' := by
  go_enter Try.func156, Try.ntmps156; go_wp2
  all_goals (go_ret; refine ⟨?_, rfl⟩; simp)
theorem cmp_Compare_int.any (a0 : Int) (a1 : Int) (w : World) :
    Calls Try.prog 131 #[.int .i64 a0, .int .i64 a1] w fun e w' => e = .returned (.int .i64 (cmpI a0 a1)) ∧ w = w' := by
  go_enter Try.func131, Try.ntmps131; go_wp2_with (first
    | (go_at_call 156; refine (cmp_isNaN_int.any _ _).mono ?_; rintro e w1 ⟨rfl, rfl⟩))
  all_goals (go_ret; refine ⟨?_, rfl⟩; congr 2; first | (simp [cmpI, *]; done) | (unfold cmpI; repeat' split) <;> first | rfl | omega)
theorem impl_cross.any (a0_0 : Int) (a0_1 : Int) (a1_0 : Int) (a1_1 : Int) (a2_0 : Int) (a2_1 : Int) (w : World) :
    Calls Try.prog 149 #[.agg #[.int .i64 a0_0, .int .i64 a0_1], .agg #[.int .i64 a1_0, .int .i64 a1_1], .agg #[.int .i64 a2_0, .int .i64 a2_1]] w fun e w' => e = .returned (.int .i64 (crossI a0_0 a0_1 a1_0 a1_1 a2_0 a2_1)) ∧ Below w.heap.size w w' := by
  have HB := Aside0.mk (Below.refl w.heap.size w)
  go_enter Try.func149, Try.ntmps149; go_wp2
  all_goals (go_ret; refine ⟨?_, by repeat (first | (with_reducible first | exact HB.out | apply below_alloc | apply below_drew1 | apply pw_below_drewN) | exact HB.out)⟩; clear HB; rfl)
set_option maxHeartbeats 4000000 in
theorem impl_SideOf.any (a0_0 : Int) (a0_1 : Int) (a1_0 : Int) (a1_1 : Int) (a2_0 : Int) (a2_1 : Int) (w : World) :
    Calls Try.prog 167 #[.agg #[.int .i64 a0_0, .int .i64 a0_1], .agg #[.int .i64 a1_0, .int .i64 a1_1], .agg #[.int .i64 a2_0, .int .i64 a2_1]] w fun e w' => e = .returned (.int .i64 (sideI a0_0 a0_1 a1_0 a1_1 a2_0 a2_1)) ∧ Below w.heap.size w w' := by
  have HB := Aside0.mk (Below.refl w.heap.size w)
  go_enter Try.func167, Try.ntmps167; go_wp2_with (first
    | (go_at_call 123; refine (impl_IsPoint.any _ _ _).mono ?_; rintro e w1 ⟨rfl, hb⟩; have n0 := Aside0.mk (below_step (by repeat (first | (with_reducible first | exact HB.out | apply below_alloc | apply below_drew1 | apply pw_below_drewN) | exact HB.out)) hb); clear HB; have HB := n0; clear n0; obtain ⟨hc, hf⟩ := bcell hb; have hz0 : w.heap.size < w1.heap.size := (by have := hb.size; (try simp at this); omega); have hz1 : w.heap.size + 1 < w1.heap.size := (by have := hb.size; (try simp at this); omega); have hz2 : w.heap.size + 1 + 1 < w1.heap.size := (by have := hb.size; (try simp at this); omega); clear hb)
    | (go_at_call 149; refine (impl_cross.any _ _ _ _ _ _ _).mono ?_; rintro e w1 ⟨rfl, hb⟩; have n0 := Aside0.mk (below_step (by repeat (first | (with_reducible first | exact HB.out | apply below_alloc | apply below_drew1 | apply pw_below_drewN) | exact HB.out)) hb); clear HB; have HB := n0; clear n0; obtain ⟨hc, hf⟩ := bcell hb; have hz0 : w.heap.size < w1.heap.size := (by have := hb.size; (try simp at this); omega); have hz1 : w.heap.size + 1 < w1.heap.size := (by have := hb.size; (try simp at this); omega); have hz2 : w.heap.size + 1 + 1 < w1.heap.size := (by have := hb.size; (try simp at this); omega); clear hb)
    | (go_at_call 131; refine (cmp_Compare_int.any _ _ _).mono ?_; rintro e w1 ⟨rfl, rfl⟩))
  all_goals (go_ret; refine ⟨?_, by repeat (first | (with_reducible first | exact HB.out | apply below_alloc | apply below_drew1 | apply pw_below_drewN) | exact HB.out)⟩; clear HB; congr 2; unfold sideI; split <;> rename_i hq <;> simp_all)
theorem impl_SideOf.calls (a0_0 : Int) (a0_1 : Int) (a1_0 : Int) (a1_1 : Int) (a2_0 : Int) (a2_1 : Int) (r : Int) (w : World) (h : impl_SideOf.f a0_0 a0_1 a1_0 a1_1 a2_0 a2_1 = some r) :
    Calls Try.prog 167 #[.agg #[.int .i64 a0_0, .int .i64 a0_1], .agg #[.int .i64 a1_0, .int .i64 a1_1], .agg #[.int .i64 a2_0, .int .i64 a2_1]] w fun e w' => e = .returned (.int .i64 (r)) ∧ Below w.heap.size w w' := by
  obtain rfl := Option.some.inj h
  exact (impl_SideOf.any a0_0 a0_1 a1_0 a1_1 a2_0 a2_1 w).mono fun e w' ⟨he, hw⟩ => ⟨he, hw⟩
theorem impl_BeforePoint.any (a0_0 : Int) (a0_1 : Int) (a1_0 : Int) (a1_1 : Int) (w : World) :
    Calls Try.prog 170 #[.agg #[.int .i64 a0_0, .int .i64 a0_1], .agg #[.int .i64 a1_0, .int .i64 a1_1]] w fun e w' => e = .returned (.bool (beforeI a0_0 a0_1 a1_0 a1_1)) ∧ Below w.heap.size w w' := by
  have HB := Aside0.mk (Below.refl w.heap.size w)
  go_enter Try.func170, Try.ntmps170; go_wp2
  all_goals (go_ret; refine ⟨?_, by repeat (first | (with_reducible first | exact HB.out | apply below_alloc | apply below_drew1 | apply pw_below_drewN) | exact HB.out)⟩; clear HB; congr 2; unfold beforeI; simp_all)
theorem impl_BeforePoint.calls (a0_0 : Int) (a0_1 : Int) (a1_0 : Int) (a1_1 : Int) (r : Bool) (w : World) (h : impl_BeforePoint.f a0_0 a0_1 a1_0 a1_1 = some r) :
    Calls Try.prog 170 #[.agg #[.int .i64 a0_0, .int .i64 a0_1], .agg #[.int .i64 a1_0, .int .i64 a1_1]] w fun e w' => e = .returned (.bool (r)) ∧ Below w.heap.size w w' := by
  obtain rfl := Option.some.inj h
  exact (impl_BeforePoint.any a0_0 a0_1 a1_0 a1_1 w).mono fun e w' ⟨he, hw⟩ => ⟨he, hw⟩
set_option maxHeartbeats 4000000 in
theorem impl_IsOn.any (a0_0 : Int) (a0_1 : Int) (a0_2 : Int) (a0_3 : Int) (a1_0 : Int) (a1_1 : Int) (w : World) :
    Calls Try.prog 171 #[.agg #[.int .i64 a0_0, .int .i64 a0_1, .int .i64 a0_2, .int .i64 a0_3], .agg #[.int .i64 a1_0, .int .i64 a1_1]] w fun e w' => e = .returned (.bool (isOnI a0_0 a0_1 a0_2 a0_3 a1_0 a1_1)) ∧ Below w.heap.size w w' := by
  have HB := Aside0.mk (Below.refl w.heap.size w)
  go_enter Try.func171, Try.ntmps171; go_wp2_with (first
    | (go_at_call 151; refine (impl_IsSegment.any _ _ _ _ _).mono ?_; rintro e w1 ⟨rfl, hb⟩; have n0 := Aside0.mk (below_step (by repeat (first | (with_reducible first | exact HB.out | apply below_alloc | apply below_drew1 | apply pw_below_drewN) | exact HB.out)) hb); clear HB; have HB := n0; clear n0; obtain ⟨hc, hf⟩ := bcell hb; have hz0 : w.heap.size < w1.heap.size := (by have := hb.size; (try simp at this); omega); have hz1 : w.heap.size + 1 < w1.heap.size := (by have := hb.size; (try simp at this); omega); clear hb)
    | (go_at_call 123; refine (impl_IsPoint.any _ _ _).mono ?_; rintro e w1 ⟨rfl, hb⟩; have n0 := Aside0.mk (below_step (by repeat (first | (with_reducible first | exact HB.out | apply below_alloc | apply below_drew1 | apply pw_below_drewN) | exact HB.out)) hb); clear HB; have HB := n0; clear n0; obtain ⟨hc, hf⟩ := bcell hb; have hz0 : w.heap.size < w1.heap.size := (by have := hb.size; (try simp at this); omega); have hz1 : w.heap.size + 1 < w1.heap.size := (by have := hb.size; (try simp at this); omega); clear hb)
    | (go_at_call 167; refine (impl_SideOf.any _ _ _ _ _ _ _).mono ?_; rintro e w1 ⟨rfl, hb⟩; have n0 := Aside0.mk (below_step (by repeat (first | (with_reducible first | exact HB.out | apply below_alloc | apply below_drew1 | apply pw_below_drewN) | exact HB.out)) hb); clear HB; have HB := n0; clear n0; obtain ⟨hc, hf⟩ := bcell hb; have hz0 : w.heap.size < w1.heap.size := (by have := hb.size; (try simp at this); omega); have hz1 : w.heap.size + 1 < w1.heap.size := (by have := hb.size; (try simp at this); omega); clear hb)
    | (go_at_call 112; refine (impl_InRange.any _ _ _ _).mono ?_; rintro e w1 ⟨rfl, rfl⟩))
  all_goals (go_ret; refine ⟨?_, by repeat (first | (with_reducible first | exact HB.out | apply below_alloc | apply below_drew1 | apply pw_below_drewN) | exact HB.out)⟩; clear HB; congr 2; unfold isOnI; simp_all [mn_le, mn_lt, mn_ge, mn_gt, mx_le, mx_lt, mx_ge, mx_gt] <;> first | (congr 1; omega) | (congr 1 <;> congr 1 <;> omega) | (have e1 : a0_1 = a0_3 := (by omega); subst e1; simp_all; done) | (have e0 : a0_0 = a0_2 := (by omega); subst e0; simp_all; done) | (have e0 : a0_0 = a0_2 := (by omega); have e1 : a0_1 = a0_3 := (by omega); subst e0; subst e1; simp_all; done))
theorem impl_IsOn.calls (a0_0 : Int) (a0_1 : Int) (a0_2 : Int) (a0_3 : Int) (a1_0 : Int) (a1_1 : Int) (r : Bool) (w : World) (h : impl_IsOn.f a0_0 a0_1 a0_2 a0_3 a1_0 a1_1 = some r) :
    Calls Try.prog 171 #[.agg #[.int .i64 a0_0, .int .i64 a0_1, .int .i64 a0_2, .int .i64 a0_3], .agg #[.int .i64 a1_0, .int .i64 a1_1]] w fun e w' => e = .returned (.bool (r)) ∧ Below w.heap.size w w' := by
  obtain rfl := Option.some.inj h
  exact (impl_IsOn.any a0_0 a0_1 a0_2 a0_3 a1_0 a1_1 w).mono fun e w' ⟨he, hw⟩ => ⟨he, hw⟩
theorem impl_HowMeet.mono_l : ∀ k, (∀ y0 y1 y2 y3 y4 y5 y6 y7 y8, LeO (impl_HowMeet.j0 k y0 y1 y2 y3 y4 y5 y6 y7 y8) (impl_HowMeet.j0 (k + 1) y0 y1 y2 y3 y4 y5 y6 y7 y8)) ∧ (∀ y0 y1 y2 y3 y4 y5 y6 y7 y8 y9 y10, LeO (impl_HowMeet.j1 k y0 y1 y2 y3 y4 y5 y6 y7 y8 y9 y10) (impl_HowMeet.j1 (k + 1) y0 y1 y2 y3 y4 y5 y6 y7 y8 y9 y10)) ∧ (∀ y0 y1 y2 y3 y4 y5 y6 y7, LeO (impl_HowMeet.j2 k y0 y1 y2 y3 y4 y5 y6 y7) (impl_HowMeet.j2 (k + 1) y0 y1 y2 y3 y4 y5 y6 y7)) ∧ (∀ y0 y1 y2 y3, LeO (impl_HowMeet.j3 k y0 y1 y2 y3) (impl_HowMeet.j3 (k + 1) y0 y1 y2 y3)) ∧ (∀ y0 y1 y2 y3 y4 y5 y6 y7 y8, LeO (impl_HowMeet.j4 k y0 y1 y2 y3 y4 y5 y6 y7 y8) (impl_HowMeet.j4 (k + 1) y0 y1 y2 y3 y4 y5 y6 y7 y8))
 | 0 => ⟨fun _ _ _ _ _ _ _ _ _ r h => by simp [impl_HowMeet.j0] at h, fun _ _ _ _ _ _ _ _ _ _ _ r h => by simp [impl_HowMeet.j1] at h, fun _ _ _ _ _ _ _ _ r h => by simp [impl_HowMeet.j2] at h, fun _ _ _ _ r h => by simp [impl_HowMeet.j3] at h, fun _ _ _ _ _ _ _ _ _ r h => by simp [impl_HowMeet.j4] at h⟩
 | k + 1 => by
  obtain ⟨ih0, ih1, ih2, ih3, ih4⟩ := impl_HowMeet.mono_l k; refine ⟨?_, ?_, ?_, ?_, ?_⟩
  ·intro y0 y1 y2 y3 y4 y5 y6 y7 y8
   unfold impl_HowMeet.j0
   repeat' first | (with_reducible first | exact ih0 _ _ _ _ _ _ _ _ _ | exact ih1 _ _ _ _ _ _ _ _ _ _ _ | exact ih2 _ _ _ _ _ _ _ _ | exact ih3 _ _ _ _ | exact ih4 _ _ _ _ _ _ _ _ _ | exact LeO.refl _ | exact LeO.none _ | refine LeO.ite ?_ ?_ | refine LeO.bind ?_ (fun _ => ?_)) | exact ih0 _ _ _ _ _ _ _ _ _ | exact ih1 _ _ _ _ _ _ _ _ _ _ _ | exact ih2 _ _ _ _ _ _ _ _ | exact ih3 _ _ _ _ | exact ih4 _ _ _ _ _ _ _ _ _ | exact LeO.none _ | refine LeO.ite ?_ ?_ | refine LeO.bind ?_ (fun _ => ?_)
  ·intro y0 y1 y2 y3 y4 y5 y6 y7 y8 y9 y10
   unfold impl_HowMeet.j1
   repeat' first | (with_reducible first | exact ih0 _ _ _ _ _ _ _ _ _ | exact ih1 _ _ _ _ _ _ _ _ _ _ _ | exact ih2 _ _ _ _ _ _ _ _ | exact ih3 _ _ _ _ | exact ih4 _ _ _ _ _ _ _ _ _ | exact LeO.refl _ | exact LeO.none _ | refine LeO.ite ?_ ?_ | refine LeO.bind ?_ (fun _ => ?_)) | exact ih0 _ _ _ _ _ _ _ _ _ | exact ih1 _ _ _ _ _ _ _ _ _ _ _ | exact ih2 _ _ _ _ _ _ _ _ | exact ih3 _ _ _ _ | exact ih4 _ _ _ _ _ _ _ _ _ | exact LeO.none _ | refine LeO.ite ?_ ?_ | refine LeO.bind ?_ (fun _ => ?_)
  ·intro y0 y1 y2 y3 y4 y5 y6 y7
   unfold impl_HowMeet.j2
   repeat' first | (with_reducible first | exact ih0 _ _ _ _ _ _ _ _ _ | exact ih1 _ _ _ _ _ _ _ _ _ _ _ | exact ih2 _ _ _ _ _ _ _ _ | exact ih3 _ _ _ _ | exact ih4 _ _ _ _ _ _ _ _ _ | exact LeO.refl _ | exact LeO.none _ | refine LeO.ite ?_ ?_ | refine LeO.bind ?_ (fun _ => ?_)) | exact ih0 _ _ _ _ _ _ _ _ _ | exact ih1 _ _ _ _ _ _ _ _ _ _ _ | exact ih2 _ _ _ _ _ _ _ _ | exact ih3 _ _ _ _ | exact ih4 _ _ _ _ _ _ _ _ _ | exact LeO.none _ | refine LeO.ite ?_ ?_ | refine LeO.bind ?_ (fun _ => ?_)
  ·intro y0 y1 y2 y3
   unfold impl_HowMeet.j3
   repeat' first | (with_reducible first | exact ih0 _ _ _ _ _ _ _ _ _ | exact ih1 _ _ _ _ _ _ _ _ _ _ _ | exact ih2 _ _ _ _ _ _ _ _ | exact ih3 _ _ _ _ | exact ih4 _ _ _ _ _ _ _ _ _ | exact LeO.refl _ | exact LeO.none _ | refine LeO.ite ?_ ?_ | refine LeO.bind ?_ (fun _ => ?_)) | exact ih0 _ _ _ _ _ _ _ _ _ | exact ih1 _ _ _ _ _ _ _ _ _ _ _ | exact ih2 _ _ _ _ _ _ _ _ | exact ih3 _ _ _ _ | exact ih4 _ _ _ _ _ _ _ _ _ | exact LeO.none _ | refine LeO.ite ?_ ?_ | refine LeO.bind ?_ (fun _ => ?_)
  ·intro y0 y1 y2 y3 y4 y5 y6 y7 y8
   unfold impl_HowMeet.j4
   repeat' first | (with_reducible first | exact ih0 _ _ _ _ _ _ _ _ _ | exact ih1 _ _ _ _ _ _ _ _ _ _ _ | exact ih2 _ _ _ _ _ _ _ _ | exact ih3 _ _ _ _ | exact ih4 _ _ _ _ _ _ _ _ _ | exact LeO.refl _ | exact LeO.none _ | refine LeO.ite ?_ ?_ | refine LeO.bind ?_ (fun _ => ?_)) | exact ih0 _ _ _ _ _ _ _ _ _ | exact ih1 _ _ _ _ _ _ _ _ _ _ _ | exact ih2 _ _ _ _ _ _ _ _ | exact ih3 _ _ _ _ | exact ih4 _ _ _ _ _ _ _ _ _ | exact LeO.none _ | refine LeO.ite ?_ ?_ | refine LeO.bind ?_ (fun _ => ?_)
theorem impl_HowMeet.mono : ∀ a0 a1 a2 a3 a4 a5 a6 a7 k, LeO (impl_HowMeet.f k a0 a1 a2 a3 a4 a5 a6 a7) (impl_HowMeet.f (k + 1) a0 a1 a2 a3 a4 a5 a6 a7) := by
 intro a0 a1 a2 a3 a4 a5 a6 a7 k; obtain ⟨ih0, ih1, ih2, ih3, ih4⟩ := impl_HowMeet.mono_l k
 unfold impl_HowMeet.f
 repeat' first | (with_reducible first | exact ih0 _ _ _ _ _ _ _ _ _ | exact ih1 _ _ _ _ _ _ _ _ _ _ _ | exact ih2 _ _ _ _ _ _ _ _ | exact ih3 _ _ _ _ | exact ih4 _ _ _ _ _ _ _ _ _ | exact LeO.refl _ | exact LeO.none _ | refine LeO.ite ?_ ?_ | refine LeO.bind ?_ (fun _ => ?_)) | exact ih0 _ _ _ _ _ _ _ _ _ | exact ih1 _ _ _ _ _ _ _ _ _ _ _ | exact ih2 _ _ _ _ _ _ _ _ | exact ih3 _ _ _ _ | exact ih4 _ _ _ _ _ _ _ _ _ | exact LeO.none _ | refine LeO.ite ?_ ?_ | refine LeO.bind ?_ (fun _ => ?_)
def impl_HowMeet.T3 : Bool × List (List Nat × List Nat) := (true, [([], []), ([0], [0]), ([], []), ([2], [2]), ([], []), ([4], [4]), ([1, 3, 5], [1, 3, 5]), ([], []), ([7], [7]), ([], []), ([9], [9]), ([], []), ([11], [11]), ([8, 10, 12, 6], [8, 10, 12]), ([6, 13, 0, 1, 2, 3, 4, 5, 6], [6]), ([13, 14, 0, 1, 2, 3, 4, 5, 6, 7, 8, 9, 10, 11, 12, 13, 14], [13])])
def impl_HowMeet.B3 : List Nat := [0, 1, 0, 4, 0, 16, 63, 0, 128, 0, 512, 0, 2048, 8191, 16383, 32767]
theorem impl_HowMeet.tab3 : rtab .any (opsOf Try.f152 3) = impl_HowMeet.T3 := by kernel_rfl
theorem impl_HowMeet.bits3 : waitsOk impl_HowMeet.T3.2 impl_HowMeet.B3 = true := by kernel_rfl
def impl_HowMeet.T6 : Bool × List (List Nat × List Nat) := (true, [([], []), ([0], [0]), ([], []), ([2], [2]), ([], []), ([], []), ([4, 1, 0, 1, 4, 5], [1, 4]), ([5, 3, 6, 0, 1, 2, 3, 4, 5, 6], [3, 5])])
def impl_HowMeet.B6 : List Nat := [0, 1, 0, 4, 0, 0, 51, 127]
theorem impl_HowMeet.tab6 : rtab .any (opsOf Try.f152 6) = impl_HowMeet.T6 := by kernel_rfl
theorem impl_HowMeet.bits6 : waitsOk impl_HowMeet.T6.2 impl_HowMeet.B6 = true := by kernel_rfl
def impl_HowMeet.T16 : Bool × List (List Nat × List Nat) := (true, [([], []), ([], []), ([0, 1], [0, 1]), ([2], [2]), ([3], [3]), ([4], [4]), ([5, 4], [4, 5]), ([4], [4]), ([7, 4], [4, 7]), ([4], [4]), ([9, 4], [4, 9]), ([6, 8, 10, 4, 4], [4, 6, 8, 10]), ([4], [4]), ([12, 4], [4, 12]), ([4], [4]), ([14, 4], [4, 14]), ([4], [4]), ([16, 4], [4, 16]), ([13, 15, 17, 11, 4], [4, 13, 15, 17]), ([11, 18, 4], [4, 11, 18]), ([19, 4], [4, 19]), ([4, 20], [4, 20])])
def impl_HowMeet.B16 : List Nat := [0, 0, 3, 7, 15, 31, 63, 31, 159, 31, 543, 2047, 31, 4127, 31, 16415, 31, 65567, 262143, 524287, 1048575, 2097151]
theorem impl_HowMeet.tab16 : rtab .any (opsOf Try.f152 16) = impl_HowMeet.T16 := by kernel_rfl
theorem impl_HowMeet.bits16 : waitsOk impl_HowMeet.T16.2 impl_HowMeet.B16 = true := by kernel_rfl
theorem impl_FindFeature.calls (A0 : Option Addr) (c0 : Nat) (l0 : List S29) (a1 : Int) (r : Int) (w : World) (hr0 : Kd.C k29 w A0 l0.length l0) (hc0 : l0.length ≤ c0) (h : impl_FindFeature.f l0 a1 = some r) :
    Calls Try.prog 94 #[.slice A0 l0.length c0, .int .i64 a1] w fun e w' => e = .returned (.int .i64 r) ∧ Below w.heap.size w w' := by
  unfold impl_FindFeature.f at h
  split at h
  · rename_i hl
    obtain rfl := Option.some.inj h; have HR := Aside0.mk hr0; have HB := Aside0.mk (below_alloc (Below.refl _ w) (Obj.cells #[Value.int .i64 a1] 3)); clear hr0; have hnew : (w.alloc (Obj.cells #[Value.int .i64 a1] 3)).cell? ⟨w.heap.size, 0, none⟩ = some (.int .i64 a1) := by
      have : (w.alloc (Obj.cells #[Value.int .i64 a1] 3)).heap[w.heap.size]? = some (Obj.cells #[Value.int .i64 a1] 3) := by simp [World.alloc, -World.alloc_eq]
      simp only [World.cell?, this]
      rfl
    go_enter Try.func94, Try.ntmps94; go_wp2_with (first
      | (go_at_call 137; refine (ff_ifunc A0 c0 l0 w.heap.size a1 _ (Kd.C_alloc HR.out _) hc0 hl hnew).mono ?_; rintro e w' ⟨rfl, hb⟩))
    go_ret
    exact ⟨rfl, below_then HB.out HB.out.size hb⟩
  · cases h
end
end Go.Proofs.Ytdfehjfmihokpaa.PFnExactIsChart
