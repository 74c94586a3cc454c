-- Written by a program of this session's (evlaw.py).
import Derived.Test.YtdfehjfmihokpaaPFnExactTileDigestx0
import Derived.Test.YtdfehjfmihokpaaEvX
import Derived.Test.YtdfehjfmihokpaaZ
import Derived.Test.YtdfehjfmihokpaaProg
import Derived.Below
import Derived.Deep.Draws
import Derived.Deep.AppendLies
import Derived.Maps.AppendAt
import Derived.OwnWalk
import Derived.Laws.BytesArg
import Derived.Laws.MakeOwn
import Derived.Laws.OwnMore
import Derived.Deep.OwnRows
import Derived.Tactics
import Derived.Lib.ConvBytes
import Derived.Laws.Slices
import Derived.WalkKit
import Derived.KernelRfl
import Derived.RowKit3
import Derived.Deep.LoopGhost
import Derived.Deep.QuietTactic
import Derived.BigQuiet
import Derived.WideLaws
import Derived.Deep.DeepCutAuto
import Derived.Deep.CutBlock
import Derived.Deep.RegionHeld3
import Derived.Laws.Rows
import Derived.Lib.AppendStr
import Derived.ArgAppend
import Derived.Laws.IdiomCopy
import Derived.OrdersHeld
import Derived.Laws.BitsLemmas
import Derived.RowKit
import Derived.Test.YtdfehjfmihokpaaGeo
import Derived.Test.YtdfehjfmihokpaaHand
import Derived.Test.YtdfehjfmihokpaaMeet
import Derived.Test.YtdfehjfmihokpaaQuiet
import Derived.Test.YtdfehjfmihokpaaWWords
import Derived.Test.YtdfehjfmihokpaaWLast
import Derived.Test.YtdfehjfmihokpaaWTab
import Derived.Test.YtdfehjfmihokpaaWFour
import Derived.Test.YtdfehjfmihokpaaWQPut
import Derived.Test.YtdfehjfmihokpaaWApart
import Derived.Test.YtdfehjfmihokpaaWArr
import Derived.Test.YtdfehjfmihokpaaWZeros
import Derived.Test.YtdfehjfmihokpaaWFoot
import Derived.Test.YtdfehjfmihokpaaWKept
import Derived.Test.YtdfehjfmihokpaaWShare
import Derived.Test.YtdfehjfmihokpaaWN
import Derived.Test.YtdfehjfmihokpaaWFootNe
import Derived.Test.YtdfehjfmihokpaaWAt
import Derived.Test.YtdfehjfmihokpaaWEqStruct
import Derived.Test.YtdfehjfmihokpaaWRepsOne
import Derived.Test.YtdfehjfmihokpaaWInv
import Derived.Test.YtdfehjfmihokpaaWInvWords
import Derived.Test.YtdfehjfmihokpaaWGuard
import Derived.Test.YtdfehjfmihokpaaWNEv
import Derived.Test.YtdfehjfmihokpaaWMore
import Derived.Test.YtdfehjfmihokpaaTwo
namespace Go.Proofs.Ytdfehjfmihokpaa.PFnExactTileDigest
open Go.RowKit Go.Proofs.YtdfehjfmihokpaaW.PrintWords Go.Proofs.YtdfehjfmihokpaaW.PrintLast Go.Proofs.YtdfehjfmihokpaaW.PrintMore Go.Proofs.YtdfehjfmihokpaaGeo Go.Proofs.YtdfehjfmihokpaaHand Go.Proofs.YtdfehjfmihokpaaMeet Go.Proofs.YtdfehjfmihokpaaQuiet Go.Proofs.YtdfehjfmihokpaaZ Go.Proofs.YtdfehjfmihokpaaTwo
open Go Go.Proofs.YtdfehjfmihokpaaEv
attribute [local go_sem] max2_int min2_int max_two min_two max_three min_three max_four min_four   -- for this text's walks alone
set_option linter.unusedVariables false
set_option linter.unusedSimpArgs false



set_option linter.unusedSimpArgs false

attribute [local go_sem high] eqA82
set_option linter.unusedVariables false
set_option linter.unusedSimpArgs false
set_option maxRecDepth 100000
noncomputable section
theorem spec_l1In.any (a0 : Int) (a1 : Int) (a2 : Int) (w : World) :
    Calls Try.prog 71 #[.int .i64 a0, .int .i64 a1, .int .i64 a2] w fun e w' => e = .returned (.bool (inR a0 a1 a2)) ∧ w = w' := by
  go_enter Try.func71, Try.ntmps71; go_wp2
  all_goals (go_ret; refine ⟨?_, rfl⟩; congr 2; first | (simp [inR, *]; done) | (simp [inR, *] <;> omega) | (unfold inR; repeat' split <;> first | rfl | omega))
theorem spec_l1In.calls (a0 : Int) (a1 : Int) (a2 : Int) (r : Bool) (w : World) (h : spec_l1In.f a0 a1 a2 = some r) :
    Calls Try.prog 71 #[.int .i64 a0, .int .i64 a1, .int .i64 a2] w fun e w' => e = .returned (.bool (r)) ∧ ∃ nd_ : Nat, w = w' := by
  obtain rfl := Option.some.inj h
  exact (spec_l1In.any a0 a1 a2 w).mono fun e w' ⟨he, hw⟩ => ⟨he, 0, hw⟩
theorem spec_Max.any (a0 : Int) (a1 : Int) (w : World) :
    Calls Try.prog 108 #[.int .i64 a0, .int .i64 a1] w fun e w' => e = .returned (.int .i64 (mx a0 a1)) ∧ w = w' := by
  go_enter Try.func108, Try.ntmps108; go_wp2
  all_goals (go_ret; refine ⟨?_, rfl⟩; congr 2; unfold mx; repeat' split <;> first | rfl | omega)
theorem spec_Max.calls (a0 : Int) (a1 : Int) (r : Int) (w : World) (h : spec_Max.f a0 a1 = some r) :
    Calls Try.prog 108 #[.int .i64 a0, .int .i64 a1] w fun e w' => e = .returned (.int .i64 (r)) ∧ ∃ nd_ : Nat, w = w' := by
  obtain rfl := Option.some.inj h
  exact (spec_Max.any a0 a1 w).mono fun e w' ⟨he, hw⟩ => ⟨he, 0, hw⟩
theorem spec_Min.any (a0 : Int) (a1 : Int) (w : World) :
    Calls Try.prog 140 #[.int .i64 a0, .int .i64 a1] w fun e w' => e = .returned (.int .i64 (mn a0 a1)) ∧ w = w' := by
  go_enter Try.func140, Try.ntmps140; go_wp2
  all_goals (go_ret; refine ⟨?_, rfl⟩; congr 2; unfold mn; repeat' split <;> first | rfl | omega)
theorem spec_Min.calls (a0 : Int) (a1 : Int) (r : Int) (w : World) (h : spec_Min.f a0 a1 = some r) :
    Calls Try.prog 140 #[.int .i64 a0, .int .i64 a1] w fun e w' => e = .returned (.int .i64 (r)) ∧ ∃ nd_ : Nat, w = w' := by
  obtain rfl := Option.some.inj h
  exact (spec_Min.any a0 a1 w).mono fun e w' ⟨he, hw⟩ => ⟨he, 0, hw⟩
theorem spec_IsPoint.any (a0_0 : Int) (a0_1 : Int) (w : World) :
    Calls Try.prog 117 #[.agg #[.int .i64 a0_0, .int .i64 a0_1]] w fun e w' => e = .returned (.bool (isPt a0_0 a0_1)) ∧ Below w.heap.size w w' := by
  have HB := Aside0.mk (Below.refl w.heap.size w)
  go_enter Try.func117, Try.ntmps117; go_wp2_with (first
    | (go_at_call 71; refine (spec_l1In.any _ _ _ _).mono ?_; rintro e w1 ⟨rfl, rfl⟩))
  all_goals (go_ret; refine ⟨?_, by repeat (first | (with_reducible first | exact HB.out | apply below_alloc | apply below_drew1 | apply pw_below_drewN) | exact HB.out)⟩; clear HB; congr 2; simp [isPt, *])
theorem spec_IsPoint.calls (a0_0 : Int) (a0_1 : Int) (r : Bool) (w : World) (h : spec_IsPoint.f a0_0 a0_1 = some r) :
    Calls Try.prog 117 #[.agg #[.int .i64 a0_0, .int .i64 a0_1]] w fun e w' => e = .returned (.bool (r)) ∧ Below w.heap.size w w' := by
  obtain rfl := Option.some.inj h
  exact (spec_IsPoint.any a0_0 a0_1 w).mono fun e w' ⟨he, hw⟩ => ⟨he, hw⟩
theorem spec_IsSegment.any (a0_0 : Int) (a0_1 : Int) (a0_2 : Int) (a0_3 : Int) (w : World) :
    Calls Try.prog 148 #[.agg #[.int .i64 a0_0, .int .i64 a0_1, .int .i64 a0_2, .int .i64 a0_3]] w fun e w' => e = .returned (.bool (isSeg a0_0 a0_1 a0_2 a0_3)) ∧ Below w.heap.size w w' := by
  have HB := Aside0.mk (Below.refl w.heap.size w)
  go_enter Try.func148, Try.ntmps148; go_wp2_with (first
    | (go_at_call 117; refine (spec_IsPoint.any _ _ _).mono ?_; rintro e w1 ⟨rfl, hb⟩; have n0 := Aside0.mk (below_step (by repeat (first | (with_reducible first | exact HB.out | apply below_alloc | apply below_drew1 | apply pw_below_drewN) | exact HB.out)) hb); clear HB; have HB := n0; clear n0; obtain ⟨hc, hf⟩ := bcell hb; have hz0 : w.heap.size < w1.heap.size := (by have := hb.size; (try simp at this); omega); clear hb))
  all_goals (go_ret; refine ⟨?_, by repeat (first | (with_reducible first | exact HB.out | apply below_alloc | apply below_drew1 | apply pw_below_drewN) | exact HB.out)⟩; clear HB; congr 2; unfold isSeg; first | (simp_all; done) | (simp_all; rfl))
theorem spec_IsSegment.calls (a0_0 : Int) (a0_1 : Int) (a0_2 : Int) (a0_3 : Int) (r : Bool) (w : World) (h : spec_IsSegment.f a0_0 a0_1 a0_2 a0_3 = some r) :
    Calls Try.prog 148 #[.agg #[.int .i64 a0_0, .int .i64 a0_1, .int .i64 a0_2, .int .i64 a0_3]] w fun e w' => e = .returned (.bool (r)) ∧ Below w.heap.size w w' := by
  obtain rfl := Option.some.inj h
  exact (spec_IsSegment.any a0_0 a0_1 a0_2 a0_3 w).mono fun e w' ⟨he, hw⟩ => ⟨he, hw⟩
theorem spec_l4Cross.any (a0_0 : Int) (a0_1 : Int) (a1_0 : Int) (a1_1 : Int) (a2_0 : Int) (a2_1 : Int) (w : World) :
    Calls Try.prog 107 #[.agg #[.int .i64 a0_0, .int .i64 a0_1], .agg #[.int .i64 a1_0, .int .i64 a1_1], .agg #[.int .i64 a2_0, .int .i64 a2_1]] w fun e w' => e = .returned (.int .i64 (crossI a0_0 a0_1 a1_0 a1_1 a2_0 a2_1)) ∧ Below w.heap.size w w' := by
  have HB := Aside0.mk (Below.refl w.heap.size w)
  go_enter Try.func107, Try.ntmps107; go_wp2
  all_goals (go_ret; refine ⟨?_, by repeat (first | (with_reducible first | exact HB.out | apply below_alloc | apply below_drew1 | apply pw_below_drewN) | exact HB.out)⟩; clear HB; rfl)
set_option maxHeartbeats 4000000 in
theorem spec_SideOf.any (a0_0 : Int) (a0_1 : Int) (a1_0 : Int) (a1_1 : Int) (a2_0 : Int) (a2_1 : Int) (w : World) :
    Calls Try.prog 164 #[.agg #[.int .i64 a0_0, .int .i64 a0_1], .agg #[.int .i64 a1_0, .int .i64 a1_1], .agg #[.int .i64 a2_0, .int .i64 a2_1]] w fun e w' => e = .returned (.int .i64 (sideI a0_0 a0_1 a1_0 a1_1 a2_0 a2_1)) ∧ Below w.heap.size w w' := by
  have HB := Aside0.mk (Below.refl w.heap.size w)
  go_enter Try.func164, Try.ntmps164; go_wp2_with (first
    | (go_at_call 117; refine (spec_IsPoint.any _ _ _).mono ?_; rintro e w1 ⟨rfl, hb⟩; have n0 := Aside0.mk (below_step (by repeat (first | (with_reducible first | exact HB.out | apply below_alloc | apply below_drew1 | apply pw_below_drewN) | exact HB.out)) hb); clear HB; have HB := n0; clear n0; obtain ⟨hc, hf⟩ := bcell hb; have hz0 : w.heap.size < w1.heap.size := (by have := hb.size; (try simp at this); omega); have hz1 : w.heap.size + 1 < w1.heap.size := (by have := hb.size; (try simp at this); omega); have hz2 : w.heap.size + 1 + 1 < w1.heap.size := (by have := hb.size; (try simp at this); omega); clear hb)
    | (go_at_call 107; refine (spec_l4Cross.any _ _ _ _ _ _ _).mono ?_; rintro e w1 ⟨rfl, hb⟩; have n0 := Aside0.mk (below_step (by repeat (first | (with_reducible first | exact HB.out | apply below_alloc | apply below_drew1 | apply pw_below_drewN) | exact HB.out)) hb); clear HB; have HB := n0; clear n0; obtain ⟨hc, hf⟩ := bcell hb; have hz0 : w.heap.size < w1.heap.size := (by have := hb.size; (try simp at this); omega); have hz1 : w.heap.size + 1 < w1.heap.size := (by have := hb.size; (try simp at this); omega); have hz2 : w.heap.size + 1 + 1 < w1.heap.size := (by have := hb.size; (try simp at this); omega); clear hb))
  all_goals (go_ret; refine ⟨?_, by repeat (first | (with_reducible first | exact HB.out | apply below_alloc | apply below_drew1 | apply pw_below_drewN) | exact HB.out)⟩; clear HB; congr 2; unfold sideI cmpI; (repeat' split) <;> simp_all <;> omega)
theorem spec_SideOf.calls (a0_0 : Int) (a0_1 : Int) (a1_0 : Int) (a1_1 : Int) (a2_0 : Int) (a2_1 : Int) (r : Int) (w : World) (h : spec_SideOf.f a0_0 a0_1 a1_0 a1_1 a2_0 a2_1 = some r) :
    Calls Try.prog 164 #[.agg #[.int .i64 a0_0, .int .i64 a0_1], .agg #[.int .i64 a1_0, .int .i64 a1_1], .agg #[.int .i64 a2_0, .int .i64 a2_1]] w fun e w' => e = .returned (.int .i64 (r)) ∧ Below w.heap.size w w' := by
  obtain rfl := Option.some.inj h
  exact (spec_SideOf.any a0_0 a0_1 a1_0 a1_1 a2_0 a2_1 w).mono fun e w' ⟨he, hw⟩ => ⟨he, hw⟩
set_option maxHeartbeats 8000000 in
theorem spec_IsOn.wlk (a b c d e f x : Int) (s p i j : Bool) (hs : isSeg a b c d = s) (hp : isPt e f = p) (hx : crossI a b c d e f = x) (hi : inR e (mn a c) (mx a c) = i) (hj : inR f (mn b d) (mx b d) = j) (w : World) :
    Calls Try.prog 173 #[.agg #[.int .i64 a, .int .i64 b, .int .i64 c, .int .i64 d], .agg #[.int .i64 e, .int .i64 f]] w fun e w' => e = .returned (.bool (s && p && decide (x = 0) && i && j)) ∧ Below w.heap.size w w' := by
  have HB := Aside0.mk (Below.refl w.heap.size w); have hC : s = false ∨ (s = true ∧ p = false) ∨ (s = true ∧ p = true ∧ x ≠ 0) ∨ (s = true ∧ p = true ∧ x = 0 ∧ i = false) ∨ (s = true ∧ p = true ∧ x = 0 ∧ i = true) := by
    by_cases x = 0 <;> cases s <;> cases p <;> cases i <;> simp [*]
  go_enter Try.func173, Try.ntmps173; go_wp2; have hS := Aside0.mk (two1 w (.cells #[.int .i64 a, .int .i64 b, .int .i64 c, .int .i64 d] 85) (.cells #[.int .i64 e, .int .i64 f] 82)); have hT := Aside0.mk (two2 w (.cells #[.int .i64 a, .int .i64 b, .int .i64 c, .int .i64 d] 85) (.cells #[.int .i64 e, .int .i64 f] 82)); refine wq_region (by kernel_rfl) (by kernel_rfl) ?_; obtain ⟨m0, m1, m2, m3⟩ := q4 hS.out; obtain ⟨l0, l1⟩ := q2 hT.out
  rcases hC with rfl | ⟨rfl, rfl⟩ | ⟨rfl, rfl, hx0⟩ | ⟨rfl, rfl, rfl, rfl⟩ | ⟨rfl, rfl, rfl, rfl⟩
  case' inr.inr.inl =>
    have z1 : (x == 0) = false := by simpa using hx0
    have z2 : decide (x = 0) = false := by simpa using hx0
    have z3 : (x = 0) = False := eq_false hx0; clear hx0
  all_goals
    iterate 54 (refine wq_step (fun K hK => ?_); go_simp; first | (refine hK _ ?_; clear hK K) | (apply Exists.intro; refine ⟨fun _ => ?_, hK _ ?_⟩; (first | exact qc (fun W => spec_IsSegment.any _ _ _ _ W) _ _ | exact qc (fun W => spec_IsPoint.any _ _ W) _ _ | exact qc (fun W => spec_l4Cross.any _ _ _ _ _ _ W) _ _ | exact qs (fun W => spec_Min.any _ _ W) _ _ | exact qs (fun W => spec_Max.any _ _ W) _ _ | exact qs (fun W => spec_l1In.any _ _ _ W) _ _); clear hK K))
    refine wq_nil ?_; intro w1 hb; replace HB := Aside0.mk (below_step (below_alloc (below_alloc HB.out _) _) hb); clear m0 m1 m2 m3 l0 l1 hS hT hb; go_wp2; go_ret
    exact ⟨by first | rfl | (simp; done) | (simp [z2]; done), HB.out⟩
theorem spec_IsOn.any (a b c d e f : Int) (w : World) :
    Calls Try.prog 173 #[.agg #[.int .i64 a, .int .i64 b, .int .i64 c, .int .i64 d], .agg #[.int .i64 e, .int .i64 f]] w fun e_ w' => e_ = .returned (.bool (isOnI a b c d e f)) ∧ Below w.heap.size w w' := by
  refine (spec_IsOn.wlk a b c d e f _ _ _ _ _ rfl rfl rfl rfl rfl w).mono ?_; rintro e_ w' ⟨rfl, hb⟩; refine ⟨?_, hb⟩
  congr 2
  unfold isOnI
  cases h1 : isSeg a b c d
  · rfl
  · cases h2 : isPt e f
    · rfl
    · have h3 := h1
      unfold isSeg at h3
      simp only [Bool.and_eq_true] at h3; have e1 : sideI a b c d e f = cmpI (crossI a b c d e f) 0 := by unfold sideI; rw [h3.1.1, h3.1.2, h2]; rfl
      rw [e1, decide_eq_decide.mpr (by rw [cmp_zero] : cmpI (crossI a b c d e f) 0 = 0 ↔ crossI a b c d e f = 0)]
theorem spec_IsOn.calls (a0_0 : Int) (a0_1 : Int) (a0_2 : Int) (a0_3 : Int) (a1_0 : Int) (a1_1 : Int) (r : Bool) (w : World) (h : spec_IsOn.f a0_0 a0_1 a0_2 a0_3 a1_0 a1_1 = some r) :
    Calls Try.prog 173 #[.agg #[.int .i64 a0_0, .int .i64 a0_1, .int .i64 a0_2, .int .i64 a0_3], .agg #[.int .i64 a1_0, .int .i64 a1_1]] w fun e w' => e = .returned (.bool (r)) ∧ Below w.heap.size w w' := by
  obtain rfl := Option.some.inj h
  exact spec_IsOn.any a0_0 a0_1 a0_2 a0_3 a1_0 a1_1 w
theorem spec_HowMeet.no1 (a b c d e f g h : Int) (hs : isSeg a b c d = false) (w : World) : Calls Try.prog 145 #[.agg #[.int .i64 a, .int .i64 b, .int .i64 c, .int .i64 d], .agg #[.int .i64 e, .int .i64 f, .int .i64 g, .int .i64 h]] w fun e w' => e = .returned (.int .i64 0) ∧ Below w.heap.size w w' := by
  have ht : True := trivial; have HB := Aside0.mk (Below.refl w.heap.size w)
  go_enter Try.func145, Try.ntmps145; go_wp2_with (first | (go_at_call 148; refine (spec_IsSegment.any _ _ _ _ _).mono ?_; rintro e w1 ⟨rfl, hb⟩; simp only [hs, ht]; have n0 := Aside0.mk (below_step (by repeat (first | (with_reducible first | exact HB.out | apply below_alloc | apply below_drew1 | apply pw_below_drewN) | exact HB.out)) hb); clear HB; have HB := n0; clear n0; (first | (have n1 := Aside0.mk (blk_below hS.out hb); have n2 := Aside0.mk (blk_below hT.out hb); clear hS hT; have hS := n1; have hT := n2; clear n1 n2) | (have hS := Aside0.mk (blk_below (two1 w _ _) hb); have hT := Aside0.mk (blk_below (two2 w _ _) hb))); clear hb; obtain ⟨k0, k1, k2, k3⟩ := c4 hS.out; obtain ⟨j0, j1, j2, j3⟩ := c4 hT.out)); go_ret
  exact ⟨rfl, HB.out⟩
theorem spec_HowMeet.no2 (a b c d e f g h : Int) (hs : isSeg a b c d = true) (ht : isSeg e f g h = false) (w : World) : Calls Try.prog 145 #[.agg #[.int .i64 a, .int .i64 b, .int .i64 c, .int .i64 d], .agg #[.int .i64 e, .int .i64 f, .int .i64 g, .int .i64 h]] w fun e w' => e = .returned (.int .i64 0) ∧ Below w.heap.size w w' := by
  have HB := Aside0.mk (Below.refl w.heap.size w)
  go_enter Try.func145, Try.ntmps145; go_wp2_with (first | (go_at_call 148; refine (spec_IsSegment.any _ _ _ _ _).mono ?_; rintro e w1 ⟨rfl, hb⟩; simp only [hs, ht]; have n0 := Aside0.mk (below_step (by repeat (first | (with_reducible first | exact HB.out | apply below_alloc | apply below_drew1 | apply pw_below_drewN) | exact HB.out)) hb); clear HB; have HB := n0; clear n0; (first | (have n1 := Aside0.mk (blk_below hS.out hb); have n2 := Aside0.mk (blk_below hT.out hb); clear hS hT; have hS := n1; have hT := n2; clear n1 n2) | (have hS := Aside0.mk (blk_below (two1 w _ _) hb); have hT := Aside0.mk (blk_below (two2 w _ _) hb))); clear hb; obtain ⟨k0, k1, k2, k3⟩ := c4 hS.out; obtain ⟨j0, j1, j2, j3⟩ := c4 hT.out)); go_ret
  exact ⟨rfl, HB.out⟩
set_option maxHeartbeats 8000000 in
set_option maxRecDepth 100000 in
theorem spec_HowMeet.wlk (a b c d e f g h x1 x2 x3 x4 y z sh : Int) (z1 z2 z3 z4 : Bool) (hs : isSeg a b c d = true) (ht : isSeg e f g h = true) (hx1 : sideI a b c d e f = x1) (hx2 : sideI a b c d g h = x2) (hx3 : sideI e f g h a b = x3) (hx4 : sideI e f g h c d = x4)
    (f1 : IntKind.i64.wrap (x1 * x2) = y) (f2 : IntKind.i64.wrap (x3 * x4) = z) (c1 : decide (mx a c < mn e g) = z1) (c2 : decide (mx e g < mn a c) = z2) (c3 : decide (mx b d < mn f h) = z3) (c4_ : decide (mx f h < mn b d) = z4) (hy : y = -1 ∨ y = 0 ∨ y = 1) (hz : z = -1 ∨ z = 0 ∨ z = 1)
    (hsh : ∀ W : World, Calls Try.prog 168 #[.agg #[.int .i64 a, .int .i64 b, .int .i64 c, .int .i64 d], .agg #[.int .i64 e, .int .i64 f, .int .i64 g, .int .i64 h]] W fun e w' => e = .returned (.int .i64 sh) ∧ Below W.heap.size W w') (w : World) :
    Calls Try.prog 145 #[.agg #[.int .i64 a, .int .i64 b, .int .i64 c, .int .i64 d], .agg #[.int .i64 e, .int .i64 f, .int .i64 g, .int .i64 h]] w fun e w' => e = .returned (.int .i64 (if (z1 || z2 || z3 || z4) = true then 0 else if sh = 0 then (if y < 0 ∧ z < 0 then 2 else 0) else if sh = 1 then 1 else 3)) ∧ Below w.heap.size w w' := by
  have hQ : (y = -1 ∧ z = -1) ∨ y = 0 ∨ y = 1 ∨ (y = -1 ∧ z = 0) ∨ (y = -1 ∧ z = 1) := by omega
  have hZ : z1 = true ∨ (z1 = false ∧ z2 = true) ∨ (z1 = false ∧ z2 = false ∧ z3 = true) ∨ (z1 = false ∧ z2 = false ∧ z3 = false ∧ z4 = true) ∨ (z1 = false ∧ z2 = false ∧ z3 = false ∧ z4 = false) := by cases z1 <;> cases z2 <;> cases z3 <;> cases z4 <;> simp
  have hN : sh = 0 ∨ sh = 1 ∨ ((sh == 0) = false ∧ (sh == 1) = false ∧ decide (sh = 0) = false ∧ decide (sh = 1) = false ∧ (sh = 0) = False ∧ (sh = 1) = False) := by
    by_cases h0 : sh = 0
    · exact .inl h0
    · by_cases h1 : sh = 1
      · exact .inr (.inl h1)
      · exact .inr (.inr (by simp [h0, h1]))
  clear hy hz; have r1 : (mx a c < mn e g) = (z1 = true) := by rw [← c1]; simp
  have r2 : (mx e g < mn a c) = (z2 = true) := by rw [← c2]; simp
  have r3 : (mx b d < mn f h) = (z3 = true) := by rw [← c3]; simp
  have r4 : (mx f h < mn b d) = (z4 = true) := by rw [← c4_]; simp
  have HB := Aside0.mk (Below.refl w.heap.size w)
  go_enter Try.func145, Try.ntmps145; go_wp2_with (first | (go_at_call 148; refine (spec_IsSegment.any _ _ _ _ _).mono ?_; rintro e w1 ⟨rfl, hb⟩; simp only [hs, ht]; have n0 := Aside0.mk (below_step (by repeat (first | (with_reducible first | exact HB.out | apply below_alloc | apply below_drew1 | apply pw_below_drewN) | exact HB.out)) hb); clear HB; have HB := n0; clear n0; (first | (have n1 := Aside0.mk (blk_below hS.out hb); have n2 := Aside0.mk (blk_below hT.out hb); clear hS hT; have hS := n1; have hT := n2; clear n1 n2) | (have hS := Aside0.mk (blk_below (two1 w _ _) hb); have hT := Aside0.mk (blk_below (two2 w _ _) hb))); clear hb; obtain ⟨k0, k1, k2, k3⟩ := c4 hS.out; obtain ⟨j0, j1, j2, j3⟩ := c4 hT.out))
  rcases hZ with rfl | ⟨rfl, rfl⟩ | ⟨rfl, rfl, rfl⟩ | ⟨rfl, rfl, rfl, rfl⟩ | ⟨rfl, rfl, rfl, rfl⟩
  all_goals
    simp only [Bool.false_eq_true] at r1 r2 r3 r4; refine wq_region (by kernel_rfl) (by kernel_rfl) ?_; obtain ⟨m0, m1, m2, m3⟩ := q4 hS.out; obtain ⟨l0, l1, l2, l3⟩ := q4 hT.out
    iterate 66 (refine wq_step (fun K hK => ?_); go_simp; first | (refine hK _ ?_; clear hK K) | (apply Exists.intro; refine ⟨fun _ => ?_, hK _ ?_⟩; (first | exact qs (fun W => spec_Min.any _ _ W) _ _ | exact qs (fun W => spec_Max.any _ _ W) _ _); clear hK K))
    refine wq_nil ?_; intro w4 hb; clear m0 m1 m2 m3 l0 l1 l2 l3 k0 k1 k2 k3 j0 j1 j2 j3; have n0 := Aside0.mk (below_step HB.out hb); have n1 := Aside0.mk (blk_below hS.out hb); have n2 := Aside0.mk (blk_below hT.out hb); clear HB hS hT hb; have HB := n0; have hS := n1; have hT := n2; clear n0 n1 n2; obtain ⟨k0, k1, k2, k3⟩ := c4 hS.out; obtain ⟨j0, j1, j2, j3⟩ := c4 hT.out; clear c1 c2 c3 c4_ r1 r2 r3 r4
  · (go_wp2; go_ret; exact ⟨rfl, HB.out⟩)
  · (go_wp2; go_ret; exact ⟨rfl, HB.out⟩)
  · (go_wp2; go_ret; exact ⟨rfl, HB.out⟩)
  · (go_wp2; go_ret; exact ⟨rfl, HB.out⟩)
  rcases hN with rfl | rfl | ⟨v1, v2, v3, v4, v5, v6⟩
  · go_wp2_with (first | (go_at_call 168; refine (hsh _).mono ?_; rintro e w1 ⟨rfl, hb⟩; clear k0 k1 k2 k3 j0 j1 j2 j3; have n0 := Aside0.mk (below_step HB.out hb); have n1 := Aside0.mk (blk_below hS.out hb); have n2 := Aside0.mk (blk_below hT.out hb); clear HB hS hT hb; have HB := n0; have hS := n1; have hT := n2; clear n0 n1 n2; obtain ⟨k0, k1, k2, k3⟩ := c4 hS.out; obtain ⟨j0, j1, j2, j3⟩ := c4 hT.out)); clear hsh
    rcases hQ with ⟨rfl, rfl⟩ | rfl | rfl | ⟨rfl, rfl⟩ | ⟨rfl, rfl⟩
    all_goals
      refine wq_region (by kernel_rfl) (by kernel_rfl) ?_; obtain ⟨m0, m1, m2, m3⟩ := q4 hS.out; obtain ⟨l0, l1, l2, l3⟩ := q4 hT.out
      iterate 34 (refine wq_step (fun K hK => ?_); go_simp; first | (refine hK _ ?_; clear hK K) | (apply Exists.intro; refine ⟨fun _ => ?_, hK _ ?_⟩; (exact qc (fun W => spec_SideOf.any _ _ _ _ _ _ W) _ _); clear hK K))
      refine wq_nil ?_; intro w6 hb; clear m0 m1 m2 m3 l0 l1 l2 l3 k0 k1 k2 k3 j0 j1 j2 j3; have n0 := Aside0.mk (below_step HB.out hb); have n1 := Aside0.mk (blk_below hS.out hb); have n2 := Aside0.mk (blk_below hT.out hb); clear HB hS hT hb; have HB := n0; have hS := n1; have hT := n2; clear n0 n1 n2; obtain ⟨k0, k1, k2, k3⟩ := c4 hS.out; obtain ⟨j0, j1, j2, j3⟩ := c4 hT.out; go_wp2; go_ret
      exact ⟨rfl, HB.out⟩
  · clear hQ; go_wp2_with (first | (go_at_call 168; refine (hsh _).mono ?_; rintro e w1 ⟨rfl, hb⟩; clear k0 k1 k2 k3 j0 j1 j2 j3; have n0 := Aside0.mk (below_step HB.out hb); have n1 := Aside0.mk (blk_below hS.out hb); have n2 := Aside0.mk (blk_below hT.out hb); clear HB hS hT hb; have HB := n0; have hS := n1; have hT := n2; clear n0 n1 n2; obtain ⟨k0, k1, k2, k3⟩ := c4 hS.out; obtain ⟨j0, j1, j2, j3⟩ := c4 hT.out)); go_ret
    exact ⟨rfl, HB.out⟩
  · clear hQ; go_wp2_with (first | (go_at_call 168; refine (hsh _).mono ?_; rintro e w1 ⟨rfl, hb⟩; clear k0 k1 k2 k3 j0 j1 j2 j3; have n0 := Aside0.mk (below_step HB.out hb); have n1 := Aside0.mk (blk_below hS.out hb); have n2 := Aside0.mk (blk_below hT.out hb); clear HB hS hT hb; have HB := n0; have hS := n1; have hT := n2; clear n0 n1 n2; obtain ⟨k0, k1, k2, k3⟩ := c4 hS.out; obtain ⟨j0, j1, j2, j3⟩ := c4 hT.out)); go_ret
    exact ⟨by simp [v5, v6], HB.out⟩
theorem impl_InRange.any (a0 : Int) (a1 : Int) (a2 : Int) (w : World) :
    Calls Try.prog 112 #[.int .i64 a0, .int .i64 a1, .int .i64 a2] w fun e w' => e = .returned (.bool (inR a0 a1 a2)) ∧ w = w' := by
  go_enter Try.func112, Try.ntmps112; go_wp2
  all_goals (go_ret; refine ⟨?_, rfl⟩; congr 2; first | (simp [inR, *]; done) | (simp [inR, *] <;> omega) | (unfold inR; repeat' split <;> first | rfl | omega))
theorem impl_InRange.calls (a0 : Int) (a1 : Int) (a2 : Int) (r : Bool) (w : World) (h : impl_InRange.f a0 a1 a2 = some r) :
    Calls Try.prog 112 #[.int .i64 a0, .int .i64 a1, .int .i64 a2] w fun e w' => e = .returned (.bool (r)) ∧ ∃ nd_ : Nat, w = w' := by
  obtain rfl := Option.some.inj h
  exact (impl_InRange.any a0 a1 a2 w).mono fun e w' ⟨he, hw⟩ => ⟨he, 0, hw⟩
theorem impl_IsPoint.any (a0_0 : Int) (a0_1 : Int) (w : World) :
    Calls Try.prog 123 #[.agg #[.int .i64 a0_0, .int .i64 a0_1]] w fun e w' => e = .returned (.bool (isPt a0_0 a0_1)) ∧ Below w.heap.size w w' := by
  have HB := Aside0.mk (Below.refl w.heap.size w)
  go_enter Try.func123, Try.ntmps123; go_wp2_with (first
    | (go_at_call 112; refine (impl_InRange.any _ _ _ _).mono ?_; rintro e w1 ⟨rfl, rfl⟩))
  all_goals (go_ret; refine ⟨?_, by repeat (first | (with_reducible first | exact HB.out | apply below_alloc | apply below_drew1 | apply pw_below_drewN) | exact HB.out)⟩; clear HB; congr 2; simp [isPt, *])
theorem impl_IsPoint.calls (a0_0 : Int) (a0_1 : Int) (r : Bool) (w : World) (h : impl_IsPoint.f a0_0 a0_1 = some r) :
    Calls Try.prog 123 #[.agg #[.int .i64 a0_0, .int .i64 a0_1]] w fun e w' => e = .returned (.bool (r)) ∧ Below w.heap.size w w' := by
  obtain rfl := Option.some.inj h
  exact (impl_IsPoint.any a0_0 a0_1 w).mono fun e w' ⟨he, hw⟩ => ⟨he, hw⟩
theorem impl_IsSegment.any (a0_0 : Int) (a0_1 : Int) (a0_2 : Int) (a0_3 : Int) (w : World) :
    Calls Try.prog 151 #[.agg #[.int .i64 a0_0, .int .i64 a0_1, .int .i64 a0_2, .int .i64 a0_3]] w fun e w' => e = .returned (.bool (isSeg a0_0 a0_1 a0_2 a0_3)) ∧ Below w.heap.size w w' := by
  have HB := Aside0.mk (Below.refl w.heap.size w)
  go_enter Try.func151, Try.ntmps151; go_wp2_with (first
    | (go_at_call 123; refine (impl_IsPoint.any _ _ _).mono ?_; rintro e w1 ⟨rfl, hb⟩; have n0 := Aside0.mk (below_step (by repeat (first | (with_reducible first | exact HB.out | apply below_alloc | apply below_drew1 | apply pw_below_drewN) | exact HB.out)) hb); clear HB; have HB := n0; clear n0; obtain ⟨hc, hf⟩ := bcell hb; have hz0 : w.heap.size < w1.heap.size := (by have := hb.size; (try simp at this); omega); clear hb))
  all_goals (go_ret; refine ⟨?_, by repeat (first | (with_reducible first | exact HB.out | apply below_alloc | apply below_drew1 | apply pw_below_drewN) | exact HB.out)⟩; clear HB; congr 2; unfold isSeg; first | (simp_all; done) | (simp_all; rfl))
theorem impl_IsSegment.calls (a0_0 : Int) (a0_1 : Int) (a0_2 : Int) (a0_3 : Int) (r : Bool) (w : World) (h : impl_IsSegment.f a0_0 a0_1 a0_2 a0_3 = some r) :
    Calls Try.prog 151 #[.agg #[.int .i64 a0_0, .int .i64 a0_1, .int .i64 a0_2, .int .i64 a0_3]] w fun e w' => e = .returned (.bool (r)) ∧ Below w.heap.size w w' := by
  obtain rfl := Option.some.inj h
  exact (impl_IsSegment.any a0_0 a0_1 a0_2 a0_3 w).mono fun e w' ⟨he, hw⟩ => ⟨he, hw⟩
theorem cmp_isNaN_int.any (a0 : Int) (w : World) :
    Calls Try.prog 156 #[.int .i64 a0] w fun e w' => e = .returned (.bool (false)) ∧ w = w' := by
  go_enter Try.func156, Try.ntmps156; go_wp2
  all_goals (go_ret; refine ⟨?_, rfl⟩; simp)
theorem cmp_Compare_int.any (a0 : Int) (a1 : Int) (w : World) :
    Calls Try.prog 131 #[.int .i64 a0, .int .i64 a1] w fun e w' => e = .returned (.int .i64 (cmpI a0 a1)) ∧ w = w' := by
  go_enter Try.func131, Try.ntmps131; go_wp2_with (first
    | (go_at_call 156; refine (cmp_isNaN_int.any _ _).mono ?_; rintro e w1 ⟨rfl, rfl⟩))
  all_goals (go_ret; refine ⟨?_, rfl⟩; congr 2; first | (simp [cmpI, *]; done) | (unfold cmpI; repeat' split) <;> first | rfl | omega)
theorem impl_cross.any (a0_0 : Int) (a0_1 : Int) (a1_0 : Int) (a1_1 : Int) (a2_0 : Int) (a2_1 : Int) (w : World) :
    Calls Try.prog 149 #[.agg #[.int .i64 a0_0, .int .i64 a0_1], .agg #[.int .i64 a1_0, .int .i64 a1_1], .agg #[.int .i64 a2_0, .int .i64 a2_1]] w fun e w' => e = .returned (.int .i64 (crossI a0_0 a0_1 a1_0 a1_1 a2_0 a2_1)) ∧ Below w.heap.size w w' := by
  have HB := Aside0.mk (Below.refl w.heap.size w)
  go_enter Try.func149, Try.ntmps149; go_wp2
  all_goals (go_ret; refine ⟨?_, by repeat (first | (with_reducible first | exact HB.out | apply below_alloc | apply below_drew1 | apply pw_below_drewN) | exact HB.out)⟩; clear HB; rfl)
set_option maxHeartbeats 4000000 in
theorem impl_SideOf.any (a0_0 : Int) (a0_1 : Int) (a1_0 : Int) (a1_1 : Int) (a2_0 : Int) (a2_1 : Int) (w : World) :
    Calls Try.prog 167 #[.agg #[.int .i64 a0_0, .int .i64 a0_1], .agg #[.int .i64 a1_0, .int .i64 a1_1], .agg #[.int .i64 a2_0, .int .i64 a2_1]] w fun e w' => e = .returned (.int .i64 (sideI a0_0 a0_1 a1_0 a1_1 a2_0 a2_1)) ∧ Below w.heap.size w w' := by
  have HB := Aside0.mk (Below.refl w.heap.size w)
  go_enter Try.func167, Try.ntmps167; go_wp2_with (first
    | (go_at_call 123; refine (impl_IsPoint.any _ _ _).mono ?_; rintro e w1 ⟨rfl, hb⟩; have n0 := Aside0.mk (below_step (by repeat (first | (with_reducible first | exact HB.out | apply below_alloc | apply below_drew1 | apply pw_below_drewN) | exact HB.out)) hb); clear HB; have HB := n0; clear n0; obtain ⟨hc, hf⟩ := bcell hb; have hz0 : w.heap.size < w1.heap.size := (by have := hb.size; (try simp at this); omega); have hz1 : w.heap.size + 1 < w1.heap.size := (by have := hb.size; (try simp at this); omega); have hz2 : w.heap.size + 1 + 1 < w1.heap.size := (by have := hb.size; (try simp at this); omega); clear hb)
    | (go_at_call 149; refine (impl_cross.any _ _ _ _ _ _ _).mono ?_; rintro e w1 ⟨rfl, hb⟩; have n0 := Aside0.mk (below_step (by repeat (first | (with_reducible first | exact HB.out | apply below_alloc | apply below_drew1 | apply pw_below_drewN) | exact HB.out)) hb); clear HB; have HB := n0; clear n0; obtain ⟨hc, hf⟩ := bcell hb; have hz0 : w.heap.size < w1.heap.size := (by have := hb.size; (try simp at this); omega); have hz1 : w.heap.size + 1 < w1.heap.size := (by have := hb.size; (try simp at this); omega); have hz2 : w.heap.size + 1 + 1 < w1.heap.size := (by have := hb.size; (try simp at this); omega); clear hb)
    | (go_at_call 131; refine (cmp_Compare_int.any _ _ _).mono ?_; rintro e w1 ⟨rfl, rfl⟩))
  all_goals (go_ret; refine ⟨?_, by repeat (first | (with_reducible first | exact HB.out | apply below_alloc | apply below_drew1 | apply pw_below_drewN) | exact HB.out)⟩; clear HB; congr 2; unfold sideI; split <;> rename_i hq <;> simp_all)
theorem impl_SideOf.calls (a0_0 : Int) (a0_1 : Int) (a1_0 : Int) (a1_1 : Int) (a2_0 : Int) (a2_1 : Int) (r : Int) (w : World) (h : impl_SideOf.f a0_0 a0_1 a1_0 a1_1 a2_0 a2_1 = some r) :
    Calls Try.prog 167 #[.agg #[.int .i64 a0_0, .int .i64 a0_1], .agg #[.int .i64 a1_0, .int .i64 a1_1], .agg #[.int .i64 a2_0, .int .i64 a2_1]] w fun e w' => e = .returned (.int .i64 (r)) ∧ Below w.heap.size w w' := by
  obtain rfl := Option.some.inj h
  exact (impl_SideOf.any a0_0 a0_1 a1_0 a1_1 a2_0 a2_1 w).mono fun e w' ⟨he, hw⟩ => ⟨he, hw⟩
theorem impl_BeforePoint.any (a0_0 : Int) (a0_1 : Int) (a1_0 : Int) (a1_1 : Int) (w : World) :
    Calls Try.prog 170 #[.agg #[.int .i64 a0_0, .int .i64 a0_1], .agg #[.int .i64 a1_0, .int .i64 a1_1]] w fun e w' => e = .returned (.bool (beforeI a0_0 a0_1 a1_0 a1_1)) ∧ Below w.heap.size w w' := by
  have HB := Aside0.mk (Below.refl w.heap.size w)
  go_enter Try.func170, Try.ntmps170; go_wp2
  all_goals (go_ret; refine ⟨?_, by repeat (first | (with_reducible first | exact HB.out | apply below_alloc | apply below_drew1 | apply pw_below_drewN) | exact HB.out)⟩; clear HB; congr 2; unfold beforeI; simp_all)
theorem impl_BeforePoint.calls (a0_0 : Int) (a0_1 : Int) (a1_0 : Int) (a1_1 : Int) (r : Bool) (w : World) (h : impl_BeforePoint.f a0_0 a0_1 a1_0 a1_1 = some r) :
    Calls Try.prog 170 #[.agg #[.int .i64 a0_0, .int .i64 a0_1], .agg #[.int .i64 a1_0, .int .i64 a1_1]] w fun e w' => e = .returned (.bool (r)) ∧ Below w.heap.size w w' := by
  obtain rfl := Option.some.inj h
  exact (impl_BeforePoint.any a0_0 a0_1 a1_0 a1_1 w).mono fun e w' ⟨he, hw⟩ => ⟨he, hw⟩
set_option maxHeartbeats 4000000 in
theorem impl_IsOn.any (a0_0 : Int) (a0_1 : Int) (a0_2 : Int) (a0_3 : Int) (a1_0 : Int) (a1_1 : Int) (w : World) :
    Calls Try.prog 171 #[.agg #[.int .i64 a0_0, .int .i64 a0_1, .int .i64 a0_2, .int .i64 a0_3], .agg #[.int .i64 a1_0, .int .i64 a1_1]] w fun e w' => e = .returned (.bool (isOnI a0_0 a0_1 a0_2 a0_3 a1_0 a1_1)) ∧ Below w.heap.size w w' := by
  have HB := Aside0.mk (Below.refl w.heap.size w)
  go_enter Try.func171, Try.ntmps171; go_wp2_with (first
    | (go_at_call 151; refine (impl_IsSegment.any _ _ _ _ _).mono ?_; rintro e w1 ⟨rfl, hb⟩; have n0 := Aside0.mk (below_step (by repeat (first | (with_reducible first | exact HB.out | apply below_alloc | apply below_drew1 | apply pw_below_drewN) | exact HB.out)) hb); clear HB; have HB := n0; clear n0; obtain ⟨hc, hf⟩ := bcell hb; have hz0 : w.heap.size < w1.heap.size := (by have := hb.size; (try simp at this); omega); have hz1 : w.heap.size + 1 < w1.heap.size := (by have := hb.size; (try simp at this); omega); clear hb)
    | (go_at_call 123; refine (impl_IsPoint.any _ _ _).mono ?_; rintro e w1 ⟨rfl, hb⟩; have n0 := Aside0.mk (below_step (by repeat (first | (with_reducible first | exact HB.out | apply below_alloc | apply below_drew1 | apply pw_below_drewN) | exact HB.out)) hb); clear HB; have HB := n0; clear n0; obtain ⟨hc, hf⟩ := bcell hb; have hz0 : w.heap.size < w1.heap.size := (by have := hb.size; (try simp at this); omega); have hz1 : w.heap.size + 1 < w1.heap.size := (by have := hb.size; (try simp at this); omega); clear hb)
    | (go_at_call 167; refine (impl_SideOf.any _ _ _ _ _ _ _).mono ?_; rintro e w1 ⟨rfl, hb⟩; have n0 := Aside0.mk (below_step (by repeat (first | (with_reducible first | exact HB.out | apply below_alloc | apply below_drew1 | apply pw_below_drewN) | exact HB.out)) hb); clear HB; have HB := n0; clear n0; obtain ⟨hc, hf⟩ := bcell hb; have hz0 : w.heap.size < w1.heap.size := (by have := hb.size; (try simp at this); omega); have hz1 : w.heap.size + 1 < w1.heap.size := (by have := hb.size; (try simp at this); omega); clear hb)
    | (go_at_call 112; refine (impl_InRange.any _ _ _ _).mono ?_; rintro e w1 ⟨rfl, rfl⟩))
  all_goals (go_ret; refine ⟨?_, by repeat (first | (with_reducible first | exact HB.out | apply below_alloc | apply below_drew1 | apply pw_below_drewN) | exact HB.out)⟩; clear HB; congr 2; unfold isOnI; simp_all [mn_le, mn_lt, mn_ge, mn_gt, mx_le, mx_lt, mx_ge, mx_gt] <;> first | (congr 1; omega) | (congr 1 <;> congr 1 <;> omega) | (have e1 : a0_1 = a0_3 := (by omega); subst e1; simp_all; done) | (have e0 : a0_0 = a0_2 := (by omega); subst e0; simp_all; done) | (have e0 : a0_0 = a0_2 := (by omega); have e1 : a0_1 = a0_3 := (by omega); subst e0; subst e1; simp_all; done))
theorem impl_IsOn.calls (a0_0 : Int) (a0_1 : Int) (a0_2 : Int) (a0_3 : Int) (a1_0 : Int) (a1_1 : Int) (r : Bool) (w : World) (h : impl_IsOn.f a0_0 a0_1 a0_2 a0_3 a1_0 a1_1 = some r) :
    Calls Try.prog 171 #[.agg #[.int .i64 a0_0, .int .i64 a0_1, .int .i64 a0_2, .int .i64 a0_3], .agg #[.int .i64 a1_0, .int .i64 a1_1]] w fun e w' => e = .returned (.bool (r)) ∧ Below w.heap.size w w' := by
  obtain rfl := Option.some.inj h
  exact (impl_IsOn.any a0_0 a0_1 a0_2 a0_3 a1_0 a1_1 w).mono fun e w' ⟨he, hw⟩ => ⟨he, hw⟩
theorem impl_HowMeet.mono_l : ∀ k, (∀ y0 y1 y2 y3 y4 y5 y6 y7 y8, LeO (impl_HowMeet.j0 k y0 y1 y2 y3 y4 y5 y6 y7 y8) (impl_HowMeet.j0 (k + 1) y0 y1 y2 y3 y4 y5 y6 y7 y8)) ∧ (∀ y0 y1 y2 y3 y4 y5 y6 y7 y8 y9 y10, LeO (impl_HowMeet.j1 k y0 y1 y2 y3 y4 y5 y6 y7 y8 y9 y10) (impl_HowMeet.j1 (k + 1) y0 y1 y2 y3 y4 y5 y6 y7 y8 y9 y10)) ∧ (∀ y0 y1 y2 y3 y4 y5 y6 y7, LeO (impl_HowMeet.j2 k y0 y1 y2 y3 y4 y5 y6 y7) (impl_HowMeet.j2 (k + 1) y0 y1 y2 y3 y4 y5 y6 y7)) ∧ (∀ y0 y1 y2 y3, LeO (impl_HowMeet.j3 k y0 y1 y2 y3) (impl_HowMeet.j3 (k + 1) y0 y1 y2 y3)) ∧ (∀ y0 y1 y2 y3 y4 y5 y6 y7 y8, LeO (impl_HowMeet.j4 k y0 y1 y2 y3 y4 y5 y6 y7 y8) (impl_HowMeet.j4 (k + 1) y0 y1 y2 y3 y4 y5 y6 y7 y8))
 | 0 => ⟨fun _ _ _ _ _ _ _ _ _ r h => by simp [impl_HowMeet.j0] at h, fun _ _ _ _ _ _ _ _ _ _ _ r h => by simp [impl_HowMeet.j1] at h, fun _ _ _ _ _ _ _ _ r h => by simp [impl_HowMeet.j2] at h, fun _ _ _ _ r h => by simp [impl_HowMeet.j3] at h, fun _ _ _ _ _ _ _ _ _ r h => by simp [impl_HowMeet.j4] at h⟩
 | k + 1 => by
  obtain ⟨ih0, ih1, ih2, ih3, ih4⟩ := impl_HowMeet.mono_l k; refine ⟨?_, ?_, ?_, ?_, ?_⟩
  ·intro y0 y1 y2 y3 y4 y5 y6 y7 y8
   unfold impl_HowMeet.j0
   repeat' first | (with_reducible first | exact ih0 _ _ _ _ _ _ _ _ _ | exact ih1 _ _ _ _ _ _ _ _ _ _ _ | exact ih2 _ _ _ _ _ _ _ _ | exact ih3 _ _ _ _ | exact ih4 _ _ _ _ _ _ _ _ _ | exact LeO.refl _ | exact LeO.none _ | refine LeO.ite ?_ ?_ | refine LeO.bind ?_ (fun _ => ?_)) | exact ih0 _ _ _ _ _ _ _ _ _ | exact ih1 _ _ _ _ _ _ _ _ _ _ _ | exact ih2 _ _ _ _ _ _ _ _ | exact ih3 _ _ _ _ | exact ih4 _ _ _ _ _ _ _ _ _ | exact LeO.none _ | refine LeO.ite ?_ ?_ | refine LeO.bind ?_ (fun _ => ?_)
  ·intro y0 y1 y2 y3 y4 y5 y6 y7 y8 y9 y10
   unfold impl_HowMeet.j1
   repeat' first | (with_reducible first | exact ih0 _ _ _ _ _ _ _ _ _ | exact ih1 _ _ _ _ _ _ _ _ _ _ _ | exact ih2 _ _ _ _ _ _ _ _ | exact ih3 _ _ _ _ | exact ih4 _ _ _ _ _ _ _ _ _ | exact LeO.refl _ | exact LeO.none _ | refine LeO.ite ?_ ?_ | refine LeO.bind ?_ (fun _ => ?_)) | exact ih0 _ _ _ _ _ _ _ _ _ | exact ih1 _ _ _ _ _ _ _ _ _ _ _ | exact ih2 _ _ _ _ _ _ _ _ | exact ih3 _ _ _ _ | exact ih4 _ _ _ _ _ _ _ _ _ | exact LeO.none _ | refine LeO.ite ?_ ?_ | refine LeO.bind ?_ (fun _ => ?_)
  ·intro y0 y1 y2 y3 y4 y5 y6 y7
   unfold impl_HowMeet.j2
   repeat' first | (with_reducible first | exact ih0 _ _ _ _ _ _ _ _ _ | exact ih1 _ _ _ _ _ _ _ _ _ _ _ | exact ih2 _ _ _ _ _ _ _ _ | exact ih3 _ _ _ _ | exact ih4 _ _ _ _ _ _ _ _ _ | exact LeO.refl _ | exact LeO.none _ | refine LeO.ite ?_ ?_ | refine LeO.bind ?_ (fun _ => ?_)) | exact ih0 _ _ _ _ _ _ _ _ _ | exact ih1 _ _ _ _ _ _ _ _ _ _ _ | exact ih2 _ _ _ _ _ _ _ _ | exact ih3 _ _ _ _ | exact ih4 _ _ _ _ _ _ _ _ _ | exact LeO.none _ | refine LeO.ite ?_ ?_ | refine LeO.bind ?_ (fun _ => ?_)
  ·intro y0 y1 y2 y3
   unfold impl_HowMeet.j3
   repeat' first | (with_reducible first | exact ih0 _ _ _ _ _ _ _ _ _ | exact ih1 _ _ _ _ _ _ _ _ _ _ _ | exact ih2 _ _ _ _ _ _ _ _ | exact ih3 _ _ _ _ | exact ih4 _ _ _ _ _ _ _ _ _ | exact LeO.refl _ | exact LeO.none _ | refine LeO.ite ?_ ?_ | refine LeO.bind ?_ (fun _ => ?_)) | exact ih0 _ _ _ _ _ _ _ _ _ | exact ih1 _ _ _ _ _ _ _ _ _ _ _ | exact ih2 _ _ _ _ _ _ _ _ | exact ih3 _ _ _ _ | exact ih4 _ _ _ _ _ _ _ _ _ | exact LeO.none _ | refine LeO.ite ?_ ?_ | refine LeO.bind ?_ (fun _ => ?_)
  ·intro y0 y1 y2 y3 y4 y5 y6 y7 y8
   unfold impl_HowMeet.j4
   repeat' first | (with_reducible first | exact ih0 _ _ _ _ _ _ _ _ _ | exact ih1 _ _ _ _ _ _ _ _ _ _ _ | exact ih2 _ _ _ _ _ _ _ _ | exact ih3 _ _ _ _ | exact ih4 _ _ _ _ _ _ _ _ _ | exact LeO.refl _ | exact LeO.none _ | refine LeO.ite ?_ ?_ | refine LeO.bind ?_ (fun _ => ?_)) | exact ih0 _ _ _ _ _ _ _ _ _ | exact ih1 _ _ _ _ _ _ _ _ _ _ _ | exact ih2 _ _ _ _ _ _ _ _ | exact ih3 _ _ _ _ | exact ih4 _ _ _ _ _ _ _ _ _ | exact LeO.none _ | refine LeO.ite ?_ ?_ | refine LeO.bind ?_ (fun _ => ?_)
theorem impl_HowMeet.mono : ∀ a0 a1 a2 a3 a4 a5 a6 a7 k, LeO (impl_HowMeet.f k a0 a1 a2 a3 a4 a5 a6 a7) (impl_HowMeet.f (k + 1) a0 a1 a2 a3 a4 a5 a6 a7) := by
 intro a0 a1 a2 a3 a4 a5 a6 a7 k; obtain ⟨ih0, ih1, ih2, ih3, ih4⟩ := impl_HowMeet.mono_l k
 unfold impl_HowMeet.f
 repeat' first | (with_reducible first | exact ih0 _ _ _ _ _ _ _ _ _ | exact ih1 _ _ _ _ _ _ _ _ _ _ _ | exact ih2 _ _ _ _ _ _ _ _ | exact ih3 _ _ _ _ | exact ih4 _ _ _ _ _ _ _ _ _ | exact LeO.refl _ | exact LeO.none _ | refine LeO.ite ?_ ?_ | refine LeO.bind ?_ (fun _ => ?_)) | exact ih0 _ _ _ _ _ _ _ _ _ | exact ih1 _ _ _ _ _ _ _ _ _ _ _ | exact ih2 _ _ _ _ _ _ _ _ | exact ih3 _ _ _ _ | exact ih4 _ _ _ _ _ _ _ _ _ | exact LeO.none _ | refine LeO.ite ?_ ?_ | refine LeO.bind ?_ (fun _ => ?_)
def impl_HowMeet.T3 : Bool × List (List Nat × List Nat) := (true, [([], []), ([0], [0]), ([], []), ([2], [2]), ([], []), ([4], [4]), ([1, 3, 5], [1, 3, 5]), ([], []), ([7], [7]), ([], []), ([9], [9]), ([], []), ([11], [11]), ([8, 10, 12, 6], [8, 10, 12]), ([6, 13, 0, 1, 2, 3, 4, 5, 6], [6]), ([13, 14, 0, 1, 2, 3, 4, 5, 6, 7, 8, 9, 10, 11, 12, 13, 14], [13])])
def impl_HowMeet.B3 : List Nat := [0, 1, 0, 4, 0, 16, 63, 0, 128, 0, 512, 0, 2048, 8191, 16383, 32767]
theorem impl_HowMeet.tab3 : rtab .any (opsOf Try.f152 3) = impl_HowMeet.T3 := by kernel_rfl
theorem impl_HowMeet.bits3 : waitsOk impl_HowMeet.T3.2 impl_HowMeet.B3 = true := by kernel_rfl
def impl_HowMeet.T6 : Bool × List (List Nat × List Nat) := (true, [([], []), ([0], [0]), ([], []), ([2], [2]), ([], []), ([], []), ([4, 1, 0, 1, 4, 5], [1, 4]), ([5, 3, 6, 0, 1, 2, 3, 4, 5, 6], [3, 5])])
def impl_HowMeet.B6 : List Nat := [0, 1, 0, 4, 0, 0, 51, 127]
theorem impl_HowMeet.tab6 : rtab .any (opsOf Try.f152 6) = impl_HowMeet.T6 := by kernel_rfl
theorem impl_HowMeet.bits6 : waitsOk impl_HowMeet.T6.2 impl_HowMeet.B6 = true := by kernel_rfl
def impl_HowMeet.T16 : Bool × List (List Nat × List Nat) := (true, [([], []), ([], []), ([0, 1], [0, 1]), ([2], [2]), ([3], [3]), ([4], [4]), ([5, 4], [4, 5]), ([4], [4]), ([7, 4], [4, 7]), ([4], [4]), ([9, 4], [4, 9]), ([6, 8, 10, 4, 4], [4, 6, 8, 10]), ([4], [4]), ([12, 4], [4, 12]), ([4], [4]), ([14, 4], [4, 14]), ([4], [4]), ([16, 4], [4, 16]), ([13, 15, 17, 11, 4], [4, 13, 15, 17]), ([11, 18, 4], [4, 11, 18]), ([19, 4], [4, 19]), ([4, 20], [4, 20])])
def impl_HowMeet.B16 : List Nat := [0, 0, 3, 7, 15, 31, 63, 31, 159, 31, 543, 2047, 31, 4127, 31, 16415, 31, 65567, 262143, 524287, 1048575, 2097151]
theorem impl_HowMeet.tab16 : rtab .any (opsOf Try.f152 16) = impl_HowMeet.T16 := by kernel_rfl
theorem impl_HowMeet.bits16 : waitsOk impl_HowMeet.T16.2 impl_HowMeet.B16 = true := by kernel_rfl
theorem impl_BoxOf.mono_l : ∀ k, (∀ y0 y1 y2 y3 y4 y5 y6, LeO (impl_BoxOf.l0 k y0 y1 y2 y3 y4 y5 y6) (impl_BoxOf.l0 (k + 1) y0 y1 y2 y3 y4 y5 y6))
 | 0 => fun _ _ _ _ _ _ _ r h => by simp [impl_BoxOf.l0] at h
 | k + 1 => by
  have ih0 := impl_BoxOf.mono_l k
  ·intro y0 y1 y2 y3 y4 y5 y6
   unfold impl_BoxOf.l0
   repeat' first | (with_reducible first | exact ih0 _ _ _ _ _ _ _ | exact LeO.refl _ | exact LeO.none _ | refine LeO.ite ?_ ?_ | refine LeO.bind ?_ (fun _ => ?_)) | exact ih0 _ _ _ _ _ _ _ | exact LeO.none _ | refine LeO.ite ?_ ?_ | refine LeO.bind ?_ (fun _ => ?_)
theorem impl_BoxOf.mono : ∀ a0 k, LeO (impl_BoxOf.f k a0) (impl_BoxOf.f (k + 1) a0) := by
 intro a0 k; have ih0 := impl_BoxOf.mono_l k
 unfold impl_BoxOf.f
 repeat' first | (with_reducible first | exact ih0 _ _ _ _ _ _ _ | exact LeO.refl _ | exact LeO.none _ | refine LeO.ite ?_ ?_ | refine LeO.bind ?_ (fun _ => ?_)) | exact ih0 _ _ _ _ _ _ _ | exact LeO.none _ | refine LeO.ite ?_ ?_ | refine LeO.bind ?_ (fun _ => ?_)
def impl_BoxOf.T3 : Bool × List (List Nat × List Nat) := (true, [([], []), ([0], [0]), ([1], [1]), ([], []), ([3], [3]), ([4], [4]), ([2, 5], [2, 5]), ([], []), ([7, 6, 0, 1, 2, 3, 4, 5, 6, 7], [6, 7])])
def impl_BoxOf.B3 : List Nat := [0, 1, 3, 0, 8, 24, 63, 0, 255]
theorem impl_BoxOf.tab3 : rtab .any (opsOf Try.f165 3) = impl_BoxOf.T3 := by kernel_rfl
theorem impl_BoxOf.bits3 : waitsOk impl_BoxOf.T3.2 impl_BoxOf.B3 = true := by kernel_rfl
def impl_BoxOf.T9 : Bool × List (List Nat × List Nat) := (true, [([], []), ([0], [0]), ([1], [1]), ([], []), ([3], [3]), ([2, 4], [2, 4]), ([], []), ([6], [6]), ([7], [7]), ([], []), ([9], [9]), ([8, 10], [8, 10]), ([5, 11], [5, 11]), ([], []), ([13], [13]), ([14], [14]), ([], []), ([16], [16]), ([15, 17], [15, 17]), ([], []), ([19], [19]), ([20], [20]), ([], []), ([22], [22]), ([21, 23], [21, 23]), ([18, 24], [18, 24]), ([0, 1, 2, 3, 4, 5, 6, 7, 8, 9, 10, 11, 12, 13, 14, 15, 19, 20, 21], []), ([26, 12, 0, 1, 2, 3, 4, 5, 6, 7, 8, 9, 10, 11, 12, 13, 14, 15, 19, 20, 21], [12, 26]), ([0, 1, 2, 3, 4, 5, 6, 7, 8, 9, 10, 11, 12, 13, 14, 15, 16, 17, 18, 19, 20, 21, 22, 23, 24, 25, 26, 27], []), ([28, 25, 27, 0, 1, 2, 3, 4, 5, 6, 7, 8, 9, 10, 11, 12, 13, 14, 15, 16, 17, 18, 19, 20, 21, 22, 23, 24, 25, 26, 27], [25, 28])])
def impl_BoxOf.B9 : List Nat := [0, 1, 3, 0, 8, 31, 0, 64, 192, 0, 512, 1984, 4095, 0, 8192, 24576, 0, 65536, 253952, 0, 524288, 1572864, 0, 4194304, 16252928, 33546240, 3735551, 70844415, 268435455, 536870911]
theorem impl_BoxOf.tab9 : rtab .any (opsOf Try.f165 9) = impl_BoxOf.T9 := by kernel_rfl
theorem impl_BoxOf.bits9 : waitsOk impl_BoxOf.T9.2 impl_BoxOf.B9 = true := by kernel_rfl
set_option maxHeartbeats 8000000 in
set_option maxRecDepth 100000 in
theorem impl_BoxOf.calls (k : Nat) (A0 : Option Addr) (c0 : Nat) (l0 : List (S82)) (r1 : Int) (r2 : Int) (r3 : Int) (r4 : Int) (r5 : Bool) (w : World) (hr0 : Kd.C k82 w A0 l0.length l0) (hc0 : l0.length ≤ c0) (h : impl_BoxOf.f k l0 = some (r1, r2, r3, r4, r5)) :
  Calls Try.prog 165 #[.slice A0 l0.length c0] w fun e w' => e = .returned (.tuple #[.agg #[.int .i64 r1, .int .i64 r2, .int .i64 r3, .int .i64 r4], .bool r5]) ∧ Below w.heap.size w w' := by
 have hu98 := Try.underlying98; have hu82 := Try.underlying82; have HR0 := Aside0.mk hr0; have HC0 := Aside0.mk hc0; clear hr0 hc0; have HB := Aside0.mk (Below.refl w.heap.size w); have H : (if (l0.length : Int) = 0 then (some (0, 0, 0, 0, false)) else (if 0 < (l0.length : Int) then (impl_BoxOf.l0 k l0 (l0.length : Int) 0 ((rd_T82 l0 0).f0) ((rd_T82 l0 0).f1) ((rd_T82 l0 0).f0) ((rd_T82 l0 0).f1)) else (none))) = some (r1, r2, r3, r4, r5) := h; clear h
 by_cases c2 : (l0.length : Int) = 0
 ·rw [if_pos c2] at H; have c2b0 : ((l0.length : Int) == 0) = true := beq_iff_eq.mpr c2; have c2b1 : ((l0.length : Int) != 0) = false := bne_eq_false_iff_eq.mpr c2; clear c2; simp only [Option.some.injEq, Prod.mk.injEq] at H; obtain ⟨rfl, rfl, rfl, rfl, rfl⟩ := H
  go_enter Try.func165, Try.ntmps165; go_wp2_with (first | ((with_reducible refine gt (some 2) rfl ?_); refine bx #[.int .i64 0, .int .i64 0, .int .i64 0, .int .i64 0] 98 ?_; intro gb508 hg w3 hbox hb; have BK508 := Aside0.mk (hbox); have GW508 := Aside0.mk (gez HB hg); have GE508 := Aside0.mk (gez HB hg); replace HB := Aside0.mk (below_step bz hb); clear hb hbox hg; obtain ⟨hcz4_0, hcz4_1, hcz4_2, hcz4_3, hfz4_0, hfz4_1, hfz4_2, hfz4_3⟩ := cells4 BK508)); refine bodyPost_ret (results_ct rfl _ _ gb508 98 #[.int .i64 0, .int .i64 0, .int .i64 0, .int .i64 0] (0, 0) _ rfl (by (with_reducible repeat (first | refine blk_drewN ?_ _ | refine blk_drew ?_ | refine blk_alloc ?_ _)); refine blk_put (cs := #[.int .i64 0, .int .i64 0, .int .i64 0, .int .i64 0]) ?_ 3 _ rfl; (with_reducible repeat (first | refine blk_drewN ?_ _ | refine blk_drew ?_ | refine blk_alloc ?_ _)); refine blk_put (cs := #[.int .i64 0, .int .i64 0, .int .i64 0, .int .i64 0]) ?_ 2 _ rfl; (with_reducible repeat (first | refine blk_drewN ?_ _ | refine blk_drew ?_ | refine blk_alloc ?_ _)); refine blk_put (cs := #[.int .i64 0, .int .i64 0, .int .i64 0, .int .i64 0]) ?_ 1 _ rfl; (with_reducible repeat (first | refine blk_drewN ?_ _ | refine blk_drew ?_ | refine blk_alloc ?_ _)); refine blk_put (cs := #[.int .i64 0, .int .i64 0, .int .i64 0, .int .i64 0]) ?_ 0 _ rfl; (with_reducible repeat (first | refine blk_drewN ?_ _ | refine blk_drew ?_ | refine blk_alloc ?_ _)); exact BK508.out) Try.underlying98 rfl (by kernel_rfl)) rfl ?_
  exact ⟨ez, bzs⟩
 ·rw [if_neg c2] at H; have c2b0 : ((l0.length : Int) == 0) = false := beq_eq_false_iff_ne.mpr c2; have c2b1 : ((l0.length : Int) != 0) = true := bne_iff_ne.mpr c2; have c2b2 : ¬ (l0 = []) := fun h_ => c2 (by rw [h_]; rfl)
  by_cases c5 : 0 < (l0.length : Int)
  ·rw [if_pos c5] at H; have c5b0 := decide_eq_true c5; have c5b1 : decide (0 < l0.length) = true := decide_eq_true (by omega); clear c5; have H' := Aside0.mk H; clear H
   go_enter Try.func165, Try.ntmps165; (try go_wp2_with (first | ((with_reducible refine gt (some 2) rfl ?_); refine bx #[.int .i64 0, .int .i64 0, .int .i64 0, .int .i64 0] 98 ?_; intro gb508 hg w6 hbox hb; have BK508 := Aside0.mk (hbox); have GW508 := Aside0.mk (gez HB hg); have GE508 := Aside0.mk (gez HB hg); replace HB := Aside0.mk (below_step bz hb); clear hb hbox hg))); replace BK508 := Aside0.mk (blk_drew BK508.out); replace HB := Aside0.mk (below_drew1 HB.out); have p509 : 0 ≤ (0 : Int) := (by omega)
   have q509 : 0 < (l0.length : Int) := of_decide_eq_true az; obtain ⟨ad509, e509, hx509_0, hx509_1⟩ := at_T82 HR0.out 0 p509 q509; have hw509_1 := hx509_1; (try rw [show ((0 : Int)).toNat = 0 from rfl] at hw509_1); (try rw [show 0 * 2 = 0 from rfl] at hw509_1); (try rw [Addr.add_zero'] at hw509_1); have hw509_0 := hx509_0; (try rw [show ((0 : Int)).toNat = 0 from rfl] at hw509_0); (try rw [show 0 * 2 = 0 from rfl] at hw509_0); (try rw [Addr.add_zero'] at hw509_0)
   cases e509
   have qi509 : (0 < l0.length) = True := eq_true (by omega); (try rw [show ((0 : Int)).toNat = 0 from rfl] at hx509_0); (try rw [show 0 * 2 = 0 from rfl] at hx509_0); (try rw [Addr.add_zero'] at hx509_0); (try rw [show ((0 : Int)).toNat = 0 from rfl] at hx509_1); (try rw [show 0 * 2 = 0 from rfl] at hx509_1); (try rw [Addr.add_zero'] at hx509_1); replace hx509_0 := xz HB hx509_0; replace hx509_1 := xz HB hx509_1; replace p509 := eq_true p509; replace q509 := eq_true q509; have p510 : 0 ≤ (0 : Int) := (by omega)
   have q510 : 0 < (l0.length : Int) := of_decide_eq_true az; obtain ⟨ad510, e510, hx510_0, hx510_1⟩ := at_T82 HR0.out 0 p510 q510; have hw510_1 := hx510_1; (try rw [show ((0 : Int)).toNat = 0 from rfl] at hw510_1); (try rw [show 0 * 2 = 0 from rfl] at hw510_1); (try rw [Addr.add_zero'] at hw510_1); have hw510_0 := hx510_0; (try rw [show ((0 : Int)).toNat = 0 from rfl] at hw510_0); (try rw [show 0 * 2 = 0 from rfl] at hw510_0); (try rw [Addr.add_zero'] at hw510_0); obtain rfl : ad509 = ad510 := (by injection e510)
   have qi510 : (0 < l0.length) = True := eq_true (by omega); (try rw [show ((0 : Int)).toNat = 0 from rfl] at hx510_0); (try rw [show 0 * 2 = 0 from rfl] at hx510_0); (try rw [Addr.add_zero'] at hx510_0); (try rw [show ((0 : Int)).toNat = 0 from rfl] at hx510_1); (try rw [show 0 * 2 = 0 from rfl] at hx510_1); (try rw [Addr.add_zero'] at hx510_1); replace hx510_0 := xz HB hx510_0; replace hx510_1 := xz HB hx510_1; replace p510 := eq_true p510; replace q510 := eq_true q510; refine start_ (n := 9) (S := fun w' => w'.cell? ad509 = some (.int .i64 ((rd_T82 l0 0).f0)) ∧ w'.cell? ⟨ad509.block, ad509.off + 1, none⟩ = some (.int .i64 ((rd_T82 l0 0).f1)) ∧ w'.cell? ad509 = some (.int .i64 ((rd_T82 l0 0).f0)) ∧ w'.cell? ⟨ad509.block, ad509.off + 1, none⟩ = some (.int .i64 ((rd_T82 l0 0).f1))) (ds := []) #[F,F,F,F,F,F,F,F,F] (by kernel_rfl) rfl rfl ⟨(xz HB hw509_0 :), (xz HB hw509_1 :), (xz HB hw510_0 :), (xz HB hw510_1 :)⟩ (fun hHeld => ?_); refine with_tabW impl_BoxOf.tab3 impl_BoxOf.bits3 (fun HT_ HW_ => ?_); generalize w6.drew = w7 at BK508 HB hx509_0 hx509_1 hx510_0 hx510_1 hHeld ⊢; refine pz HT_ 0 11 ?_; refine pz HT_ 1 12 ?_; refine pz HT_ 3 14 ?_; refine pz HT_ 4 15 ?_; refine tz4 HT_ HW_ hHeld 2 13 ?_; refine tz4 HT_ HW_ hHeld 5 16 ?_; refine pz HT_ 6 17 ?_; refine oz HT_ 7 (some 4) (fun K hK => ?_); refine box_step ?hg (N := 4) ?hd (cs := #[.int .i64 0, .int .i64 0, .int .i64 0, .int .i64 0]) (t := 98) ?hr ?_; (case hd => rfl); (case hg => rfl); (case hr => first | (go_simp; done) | (go_simp; rfl))
   intro gb511 hg w8 hbox hb; have BK511 := Aside0.mk (hbox); have GW511 := Aside0.mk (gez HB hg); have GE511 := Aside0.mk (gez HB hg); replace HB := Aside0.mk (below_step bzs hb); have NB508_511 := Aside0.mk ((by rw [hg]; exact Nat.ne_of_lt (blk_lt (g := gb508) (o := .cells #[.int .i64 0, .int .i64 0, .int .i64 0, .int .i64 0] 98 (0, 0)) (kz BK508)) : gb508 ≠ gb511)); have NB511_508 := Aside0.mk ((by rw [hg]; exact Nat.ne_of_gt (blk_lt (g := gb508) (o := .cells #[.int .i64 0, .int .i64 0, .int .i64 0, .int .i64 0] 98 (0, 0)) (kz BK508)) : gb511 ≠ gb508)); replace BK508 := Aside0.mk (bbz BK508 hb); clear hb hbox hg; refine hK.out _ _ ⟨(xz HB hw509_0 :), (xz HB hw509_1 :), (xz HB hw510_0 :), (xz HB hw510_1 :)⟩ (fun hHeld => ?_); clear hK K; refine nz 4 ?_; refine oz HT_ 8 none (fun K hK => ?_); have hs9 : w8.cell? ⟨gb511, 0, none⟩ = some (.int .i64 0) := bc BK511 0; have hfs9 := blk_frozen BK511.out 0; have hns9_0 := NB508_511.out; have hms9_0 := NB511_508.out; have hs10 : w8.cell? ⟨gb511, 1, none⟩ = some (.int .i64 0) := bc BK511 1; have hfs10 := blk_frozen BK511.out 1; have hns10_0 := NB508_511.out; have hms10_0 := NB511_508.out; have hs11 : w8.cell? ⟨gb511, 2, none⟩ = some (.int .i64 0) := bc BK511 2; have hfs11 := blk_frozen BK511.out 2; have hns11_0 := NB508_511.out; have hms11_0 := NB511_508.out; have hs12 : w8.cell? ⟨gb511, 3, none⟩ = some (.int .i64 0) := bc BK511 3; have hfs12 := blk_frozen BK511.out 3; have hns12_0 := NB508_511.out; have hms12_0 := NB511_508.out; refine skip_ (w1 := ?_) (by rfl) rfl ?_ ?_
   rotate_left
   ·go_simp
    rfl
   refine hK.out _ _ ⟨((cell_far (p := ⟨gb511, _, none⟩) (by first | exact Nat.ne_of_lt (Nat.lt_of_lt_of_le (by have := World.block_lt_of_cell? _ _ hw509_0; first | rwa [add_block] at this | exact this) GW511.out) | (rw [add_block]; exact Nat.ne_of_lt (Nat.lt_of_lt_of_le (by have := World.block_lt_of_cell? _ _ hw509_0; first | rwa [add_block] at this | exact this) GW511.out)) | (show (Addr.add _ _).block ≠ _; rw [add_block]; exact Nat.ne_of_lt (Nat.lt_of_lt_of_le (by have := World.block_lt_of_cell? _ _ hw509_0; first | rwa [add_block] at this | exact this) GW511.out)) | (dsimp only; exact Nat.ne_of_lt (Nat.lt_of_lt_of_le (by have := World.block_lt_of_cell? _ _ hw509_0; first | rwa [add_block] at this | exact this) GW511.out))) _).trans (((cell_far (p := ⟨gb511, _, none⟩) (by first | exact Nat.ne_of_lt (Nat.lt_of_lt_of_le (by have := World.block_lt_of_cell? _ _ hw509_0; first | rwa [add_block] at this | exact this) GW511.out) | (rw [add_block]; exact Nat.ne_of_lt (Nat.lt_of_lt_of_le (by have := World.block_lt_of_cell? _ _ hw509_0; first | rwa [add_block] at this | exact this) GW511.out)) | (show (Addr.add _ _).block ≠ _; rw [add_block]; exact Nat.ne_of_lt (Nat.lt_of_lt_of_le (by have := World.block_lt_of_cell? _ _ hw509_0; first | rwa [add_block] at this | exact this) GW511.out)) | (dsimp only; exact Nat.ne_of_lt (Nat.lt_of_lt_of_le (by have := World.block_lt_of_cell? _ _ hw509_0; first | rwa [add_block] at this | exact this) GW511.out))) _).trans (((cell_far (p := ⟨gb511, _, none⟩) (by first | exact Nat.ne_of_lt (Nat.lt_of_lt_of_le (by have := World.block_lt_of_cell? _ _ hw509_0; first | rwa [add_block] at this | exact this) GW511.out) | (rw [add_block]; exact Nat.ne_of_lt (Nat.lt_of_lt_of_le (by have := World.block_lt_of_cell? _ _ hw509_0; first | rwa [add_block] at this | exact this) GW511.out)) | (show (Addr.add _ _).block ≠ _; rw [add_block]; exact Nat.ne_of_lt (Nat.lt_of_lt_of_le (by have := World.block_lt_of_cell? _ _ hw509_0; first | rwa [add_block] at this | exact this) GW511.out)) | (dsimp only; exact Nat.ne_of_lt (Nat.lt_of_lt_of_le (by have := World.block_lt_of_cell? _ _ hw509_0; first | rwa [add_block] at this | exact this) GW511.out))) _).trans (((cell_far (p := ⟨gb511, _, none⟩) (by first | exact Nat.ne_of_lt (Nat.lt_of_lt_of_le (by have := World.block_lt_of_cell? _ _ hw509_0; first | rwa [add_block] at this | exact this) GW511.out) | (rw [add_block]; exact Nat.ne_of_lt (Nat.lt_of_lt_of_le (by have := World.block_lt_of_cell? _ _ hw509_0; first | rwa [add_block] at this | exact this) GW511.out)) | (show (Addr.add _ _).block ≠ _; rw [add_block]; exact Nat.ne_of_lt (Nat.lt_of_lt_of_le (by have := World.block_lt_of_cell? _ _ hw509_0; first | rwa [add_block] at this | exact this) GW511.out)) | (dsimp only; exact Nat.ne_of_lt (Nat.lt_of_lt_of_le (by have := World.block_lt_of_cell? _ _ hw509_0; first | rwa [add_block] at this | exact this) GW511.out))) _).trans (hHeld.1)))))))), ((cell_far (p := ⟨gb511, _, none⟩) (by first | exact Nat.ne_of_lt (Nat.lt_of_lt_of_le (by have := World.block_lt_of_cell? _ _ hw509_1; first | rwa [add_block] at this | exact this) GW511.out) | (rw [add_block]; exact Nat.ne_of_lt (Nat.lt_of_lt_of_le (by have := World.block_lt_of_cell? _ _ hw509_1; first | rwa [add_block] at this | exact this) GW511.out)) | (show (Addr.add _ _).block ≠ _; rw [add_block]; exact Nat.ne_of_lt (Nat.lt_of_lt_of_le (by have := World.block_lt_of_cell? _ _ hw509_1; first | rwa [add_block] at this | exact this) GW511.out)) | (dsimp only; exact Nat.ne_of_lt (Nat.lt_of_lt_of_le (by have := World.block_lt_of_cell? _ _ hw509_1; first | rwa [add_block] at this | exact this) GW511.out))) _).trans (((cell_far (p := ⟨gb511, _, none⟩) (by first | exact Nat.ne_of_lt (Nat.lt_of_lt_of_le (by have := World.block_lt_of_cell? _ _ hw509_1; first | rwa [add_block] at this | exact this) GW511.out) | (rw [add_block]; exact Nat.ne_of_lt (Nat.lt_of_lt_of_le (by have := World.block_lt_of_cell? _ _ hw509_1; first | rwa [add_block] at this | exact this) GW511.out)) | (show (Addr.add _ _).block ≠ _; rw [add_block]; exact Nat.ne_of_lt (Nat.lt_of_lt_of_le (by have := World.block_lt_of_cell? _ _ hw509_1; first | rwa [add_block] at this | exact this) GW511.out)) | (dsimp only; exact Nat.ne_of_lt (Nat.lt_of_lt_of_le (by have := World.block_lt_of_cell? _ _ hw509_1; first | rwa [add_block] at this | exact this) GW511.out))) _).trans (((cell_far (p := ⟨gb511, _, none⟩) (by first | exact Nat.ne_of_lt (Nat.lt_of_lt_of_le (by have := World.block_lt_of_cell? _ _ hw509_1; first | rwa [add_block] at this | exact this) GW511.out) | (rw [add_block]; exact Nat.ne_of_lt (Nat.lt_of_lt_of_le (by have := World.block_lt_of_cell? _ _ hw509_1; first | rwa [add_block] at this | exact this) GW511.out)) | (show (Addr.add _ _).block ≠ _; rw [add_block]; exact Nat.ne_of_lt (Nat.lt_of_lt_of_le (by have := World.block_lt_of_cell? _ _ hw509_1; first | rwa [add_block] at this | exact this) GW511.out)) | (dsimp only; exact Nat.ne_of_lt (Nat.lt_of_lt_of_le (by have := World.block_lt_of_cell? _ _ hw509_1; first | rwa [add_block] at this | exact this) GW511.out))) _).trans (((cell_far (p := ⟨gb511, _, none⟩) (by first | exact Nat.ne_of_lt (Nat.lt_of_lt_of_le (by have := World.block_lt_of_cell? _ _ hw509_1; first | rwa [add_block] at this | exact this) GW511.out) | (rw [add_block]; exact Nat.ne_of_lt (Nat.lt_of_lt_of_le (by have := World.block_lt_of_cell? _ _ hw509_1; first | rwa [add_block] at this | exact this) GW511.out)) | (show (Addr.add _ _).block ≠ _; rw [add_block]; exact Nat.ne_of_lt (Nat.lt_of_lt_of_le (by have := World.block_lt_of_cell? _ _ hw509_1; first | rwa [add_block] at this | exact this) GW511.out)) | (dsimp only; exact Nat.ne_of_lt (Nat.lt_of_lt_of_le (by have := World.block_lt_of_cell? _ _ hw509_1; first | rwa [add_block] at this | exact this) GW511.out))) _).trans (hHeld.2.1)))))))), ((cell_far (p := ⟨gb511, _, none⟩) (by first | exact Nat.ne_of_lt (Nat.lt_of_lt_of_le (by have := World.block_lt_of_cell? _ _ hw510_0; first | rwa [add_block] at this | exact this) GW511.out) | (rw [add_block]; exact Nat.ne_of_lt (Nat.lt_of_lt_of_le (by have := World.block_lt_of_cell? _ _ hw510_0; first | rwa [add_block] at this | exact this) GW511.out)) | (show (Addr.add _ _).block ≠ _; rw [add_block]; exact Nat.ne_of_lt (Nat.lt_of_lt_of_le (by have := World.block_lt_of_cell? _ _ hw510_0; first | rwa [add_block] at this | exact this) GW511.out)) | (dsimp only; exact Nat.ne_of_lt (Nat.lt_of_lt_of_le (by have := World.block_lt_of_cell? _ _ hw510_0; first | rwa [add_block] at this | exact this) GW511.out))) _).trans (((cell_far (p := ⟨gb511, _, none⟩) (by first | exact Nat.ne_of_lt (Nat.lt_of_lt_of_le (by have := World.block_lt_of_cell? _ _ hw510_0; first | rwa [add_block] at this | exact this) GW511.out) | (rw [add_block]; exact Nat.ne_of_lt (Nat.lt_of_lt_of_le (by have := World.block_lt_of_cell? _ _ hw510_0; first | rwa [add_block] at this | exact this) GW511.out)) | (show (Addr.add _ _).block ≠ _; rw [add_block]; exact Nat.ne_of_lt (Nat.lt_of_lt_of_le (by have := World.block_lt_of_cell? _ _ hw510_0; first | rwa [add_block] at this | exact this) GW511.out)) | (dsimp only; exact Nat.ne_of_lt (Nat.lt_of_lt_of_le (by have := World.block_lt_of_cell? _ _ hw510_0; first | rwa [add_block] at this | exact this) GW511.out))) _).trans (((cell_far (p := ⟨gb511, _, none⟩) (by first | exact Nat.ne_of_lt (Nat.lt_of_lt_of_le (by have := World.block_lt_of_cell? _ _ hw510_0; first | rwa [add_block] at this | exact this) GW511.out) | (rw [add_block]; exact Nat.ne_of_lt (Nat.lt_of_lt_of_le (by have := World.block_lt_of_cell? _ _ hw510_0; first | rwa [add_block] at this | exact this) GW511.out)) | (show (Addr.add _ _).block ≠ _; rw [add_block]; exact Nat.ne_of_lt (Nat.lt_of_lt_of_le (by have := World.block_lt_of_cell? _ _ hw510_0; first | rwa [add_block] at this | exact this) GW511.out)) | (dsimp only; exact Nat.ne_of_lt (Nat.lt_of_lt_of_le (by have := World.block_lt_of_cell? _ _ hw510_0; first | rwa [add_block] at this | exact this) GW511.out))) _).trans (((cell_far (p := ⟨gb511, _, none⟩) (by first | exact Nat.ne_of_lt (Nat.lt_of_lt_of_le (by have := World.block_lt_of_cell? _ _ hw510_0; first | rwa [add_block] at this | exact this) GW511.out) | (rw [add_block]; exact Nat.ne_of_lt (Nat.lt_of_lt_of_le (by have := World.block_lt_of_cell? _ _ hw510_0; first | rwa [add_block] at this | exact this) GW511.out)) | (show (Addr.add _ _).block ≠ _; rw [add_block]; exact Nat.ne_of_lt (Nat.lt_of_lt_of_le (by have := World.block_lt_of_cell? _ _ hw510_0; first | rwa [add_block] at this | exact this) GW511.out)) | (dsimp only; exact Nat.ne_of_lt (Nat.lt_of_lt_of_le (by have := World.block_lt_of_cell? _ _ hw510_0; first | rwa [add_block] at this | exact this) GW511.out))) _).trans (hHeld.2.2.1)))))))), ((cell_far (p := ⟨gb511, _, none⟩) (by first | exact Nat.ne_of_lt (Nat.lt_of_lt_of_le (by have := World.block_lt_of_cell? _ _ hw510_1; first | rwa [add_block] at this | exact this) GW511.out) | (rw [add_block]; exact Nat.ne_of_lt (Nat.lt_of_lt_of_le (by have := World.block_lt_of_cell? _ _ hw510_1; first | rwa [add_block] at this | exact this) GW511.out)) | (show (Addr.add _ _).block ≠ _; rw [add_block]; exact Nat.ne_of_lt (Nat.lt_of_lt_of_le (by have := World.block_lt_of_cell? _ _ hw510_1; first | rwa [add_block] at this | exact this) GW511.out)) | (dsimp only; exact Nat.ne_of_lt (Nat.lt_of_lt_of_le (by have := World.block_lt_of_cell? _ _ hw510_1; first | rwa [add_block] at this | exact this) GW511.out))) _).trans (((cell_far (p := ⟨gb511, _, none⟩) (by first | exact Nat.ne_of_lt (Nat.lt_of_lt_of_le (by have := World.block_lt_of_cell? _ _ hw510_1; first | rwa [add_block] at this | exact this) GW511.out) | (rw [add_block]; exact Nat.ne_of_lt (Nat.lt_of_lt_of_le (by have := World.block_lt_of_cell? _ _ hw510_1; first | rwa [add_block] at this | exact this) GW511.out)) | (show (Addr.add _ _).block ≠ _; rw [add_block]; exact Nat.ne_of_lt (Nat.lt_of_lt_of_le (by have := World.block_lt_of_cell? _ _ hw510_1; first | rwa [add_block] at this | exact this) GW511.out)) | (dsimp only; exact Nat.ne_of_lt (Nat.lt_of_lt_of_le (by have := World.block_lt_of_cell? _ _ hw510_1; first | rwa [add_block] at this | exact this) GW511.out))) _).trans (((cell_far (p := ⟨gb511, _, none⟩) (by first | exact Nat.ne_of_lt (Nat.lt_of_lt_of_le (by have := World.block_lt_of_cell? _ _ hw510_1; first | rwa [add_block] at this | exact this) GW511.out) | (rw [add_block]; exact Nat.ne_of_lt (Nat.lt_of_lt_of_le (by have := World.block_lt_of_cell? _ _ hw510_1; first | rwa [add_block] at this | exact this) GW511.out)) | (show (Addr.add _ _).block ≠ _; rw [add_block]; exact Nat.ne_of_lt (Nat.lt_of_lt_of_le (by have := World.block_lt_of_cell? _ _ hw510_1; first | rwa [add_block] at this | exact this) GW511.out)) | (dsimp only; exact Nat.ne_of_lt (Nat.lt_of_lt_of_le (by have := World.block_lt_of_cell? _ _ hw510_1; first | rwa [add_block] at this | exact this) GW511.out))) _).trans (((cell_far (p := ⟨gb511, _, none⟩) (by first | exact Nat.ne_of_lt (Nat.lt_of_lt_of_le (by have := World.block_lt_of_cell? _ _ hw510_1; first | rwa [add_block] at this | exact this) GW511.out) | (rw [add_block]; exact Nat.ne_of_lt (Nat.lt_of_lt_of_le (by have := World.block_lt_of_cell? _ _ hw510_1; first | rwa [add_block] at this | exact this) GW511.out)) | (show (Addr.add _ _).block ≠ _; rw [add_block]; exact Nat.ne_of_lt (Nat.lt_of_lt_of_le (by have := World.block_lt_of_cell? _ _ hw510_1; first | rwa [add_block] at this | exact this) GW511.out)) | (dsimp only; exact Nat.ne_of_lt (Nat.lt_of_lt_of_le (by have := World.block_lt_of_cell? _ _ hw510_1; first | rwa [add_block] at this | exact this) GW511.out))) _).trans (hHeld.2.2.2))))))))⟩ (fun hHeld => ?_)
   clear hK K; refine dz HT_ ?_; (try go_wp2)
   go_loopg [20] k (fun kq v20 w' => ∃ (x20_1 : Int) (x509000_1 : Int) (x509001_1 : Int) (x509002_1 : Int) (x509003_1 : Int) (x512000_1 : Int) (x512001_1 : Int) (x512002_1 : Int) (x512003_1 : Int), v20 = .int .i64 x20_1 ∧ Aside0 (impl_BoxOf.l0 kq l0 (l0.length : Int) x20_1 x512000_1 x512001_1 x512002_1 x512003_1 = some (r1, r2, r3, r4, r5)) ∧ Aside0 (kq ≤ k) ∧ Aside0 (w'.heap[gb508]? = some (.cells #[.int .i64 x509000_1, .int .i64 x509001_1, .int .i64 x509002_1, .int .i64 x509003_1] 98 (0, 0))) ∧ Aside0 (w'.heap[gb511]? = some (.cells #[.int .i64 x512000_1, .int .i64 x512001_1, .int .i64 x512002_1, .int .i64 x512003_1] 98 (0, 0))) ∧ Aside0 (Below w.heap.size w w'))
   case atStart => exact ⟨(0), (0), (0), (0), (0), ((rd_T82 l0 0).f0), ((rd_T82 l0 0).f1), ((rd_T82 l0 0).f0), ((rd_T82 l0 0).f1), rz, H', ⟨Nat.le_refl _⟩, ⟨kz BK508⟩, ⟨by (with_reducible repeat (first | refine blk_drewN ?_ _ | refine blk_drew ?_ | refine blk_alloc ?_ _)); refine blk_put (cs := #[.int .i64 ((rd_T82 l0 0).f0), .int .i64 ((rd_T82 l0 0).f1), .int .i64 ((rd_T82 l0 0).f0), .int .i64 0]) ?_ 3 _ rfl; (with_reducible repeat (first | refine blk_drewN ?_ _ | refine blk_drew ?_ | refine blk_alloc ?_ _)); refine blk_put (cs := #[.int .i64 ((rd_T82 l0 0).f0), .int .i64 ((rd_T82 l0 0).f1), .int .i64 0, .int .i64 0]) ?_ 2 _ rfl; (with_reducible repeat (first | refine blk_drewN ?_ _ | refine blk_drew ?_ | refine blk_alloc ?_ _)); refine blk_put (cs := #[.int .i64 ((rd_T82 l0 0).f0), .int .i64 0, .int .i64 0, .int .i64 0]) ?_ 1 _ rfl; (with_reducible repeat (first | refine blk_drewN ?_ _ | refine blk_drew ?_ | refine blk_alloc ?_ _)); refine blk_put (cs := #[.int .i64 0, .int .i64 0, .int .i64 0, .int .i64 0]) ?_ 0 _ rfl; (with_reducible repeat (first | refine blk_drewN ?_ _ | refine blk_drew ?_ | refine blk_alloc ?_ _)); exact BK511.out⟩, ⟨bzs⟩⟩
   case round =>
    clear H'; (try clear c1); (try clear c2); (try clear c2b0); (try clear c2b1); (try clear c2b2); (try clear p2); (try clear c5); (try clear c5b0); (try clear c5b1); (try clear p5); (try clear q5); (try clear hx5); (try clear qi5); (try clear hcz4_0); (try clear hcz4_1); (try clear hcz4_2); (try clear hcz4_3); (try clear hfz4_0); (try clear hfz4_1); (try clear hfz4_2); (try clear hfz4_3); (try clear hx509_0); (try clear hx509_1); (try clear hx510_0); (try clear hx510_1); (try clear p509); (try clear p510); (try clear q509); (try clear q510); obtain ⟨x20_1, x509000_1, x509001_1, x509002_1, x509003_1, x512000_1, x512001_1, x512002_1, x512003_1, rfl, HA, HK1, BK508, BK511, HB⟩ := hrel
    cases gk with
    | zero => exact absurd HA.out (by simp [impl_BoxOf.l0])
    | succ k1 =>
     have H := HA.out; clear HA; simp only [impl_BoxOf.l0] at H
     by_cases c13 : x20_1 < (l0.length : Int)
     ·rw [if_pos c13] at H; have c13b0 := decide_eq_true c13; clear c13
      by_cases c14 : 0 ≤ x20_1
      ·rw [if_pos c14] at H; have c14b0 := decide_eq_true c14; clear c14
       by_cases c15 : x20_1 < (l0.length : Int)
       ·rw [if_pos c15] at H; have c15b0 := decide_eq_true c15; clear c15; replace H := Option.bind_eq_some_iff.mp H; obtain ⟨t514, A160, H⟩ := H; have A16 := Aside0.mk A160; clear A160
        by_cases c17 : t514 = true
        ·subst c17; replace H := ift H; obtain ⟨ji18, hji18⟩ : ∃ j_ : Int, (mn x512000_1 ((rd_T82 l0 x20_1).f0)) = j_ := ⟨_, rfl⟩
         replace H : (impl_BoxOf.l0 k1 l0 (l0.length : Int) (wrap64 (x20_1 + 1)) ji18 (mn x512001_1 ((rd_T82 l0 x20_1).f1)) (mx x512002_1 ((rd_T82 l0 x20_1).f0)) (mx x512003_1 ((rd_T82 l0 x20_1).f1))) = some (r1, r2, r3, r4, r5) := by first | (rw [hji18] at H; exact H) | (simp only [hji18] at H ⊢; exact H)
         (try rw [hji18] at A16); have hji18_ : (if ((rd_T82 l0 x20_1).f0) < x512000_1 then ((rd_T82 l0 x20_1).f0) else x512000_1) = ji18 := hji18; obtain ⟨ji19, hji19⟩ : ∃ j_ : Int, (mn x512001_1 ((rd_T82 l0 x20_1).f1)) = j_ := ⟨_, rfl⟩
         replace H : (impl_BoxOf.l0 k1 l0 (l0.length : Int) (wrap64 (x20_1 + 1)) ji18 ji19 (mx x512002_1 ((rd_T82 l0 x20_1).f0)) (mx x512003_1 ((rd_T82 l0 x20_1).f1))) = some (r1, r2, r3, r4, r5) := by first | (rw [hji19] at H; exact H) | (simp only [hji19] at H ⊢; exact H)
         (try rw [hji19] at A16); have hji19_ : (if ((rd_T82 l0 x20_1).f1) < x512001_1 then ((rd_T82 l0 x20_1).f1) else x512001_1) = ji19 := hji19; obtain ⟨ji20, hji20⟩ : ∃ j_ : Int, (mx x512002_1 ((rd_T82 l0 x20_1).f0)) = j_ := ⟨_, rfl⟩
         replace H : (impl_BoxOf.l0 k1 l0 (l0.length : Int) (wrap64 (x20_1 + 1)) ji18 ji19 ji20 (mx x512003_1 ((rd_T82 l0 x20_1).f1))) = some (r1, r2, r3, r4, r5) := by first | (rw [hji20] at H; exact H) | (simp only [hji20] at H ⊢; exact H)
         (try rw [hji20] at A16); have hji20_ : (if x512002_1 < ((rd_T82 l0 x20_1).f0) then ((rd_T82 l0 x20_1).f0) else x512002_1) = ji20 := hji20; obtain ⟨ji21, hji21⟩ : ∃ j_ : Int, (mx x512003_1 ((rd_T82 l0 x20_1).f1)) = j_ := ⟨_, rfl⟩
         replace H : (impl_BoxOf.l0 k1 l0 (l0.length : Int) (wrap64 (x20_1 + 1)) ji18 ji19 ji20 ji21) = some (r1, r2, r3, r4, r5) := by first | (rw [hji21] at H; exact H) | (simp only [hji21] at H ⊢; exact H)
         (try rw [hji21] at A16); have hji21_ : (if x512003_1 < ((rd_T82 l0 x20_1).f1) then ((rd_T82 l0 x20_1).f1) else x512003_1) = ji21 := hji21; have H' := Aside0.mk H; clear H; have p512 : 0 ≤ (x20_1 : Int) := of_decide_eq_true az; have q512 : x20_1 < (l0.length : Int) := of_decide_eq_true az; obtain ⟨ad512, e512, hx512_0, hx512_1⟩ := at_T82 HR0.out x20_1 p512 q512; obtain rfl : ad509 = ad512 := (by injection e512)
         replace hx512_0 := xz HB hx512_0; replace hx512_1 := xz HB hx512_1; replace p512 := eq_true p512; replace q512 := eq_true q512; (try go_wp2_with (first | ((with_reducible refine gt (some 6) rfl ?_); refine bx #[.int .i64 0, .int .i64 0] 82 ?_; intro gb513 hg w22 hbox hb; have BK513 := Aside0.mk (hbox); have GW513 := Aside0.mk (gez HB hg); have GE513 := Aside0.mk (gez HB hg); replace HB := Aside0.mk (below_step bzs hb); have NB508_513 := Aside0.mk ((by rw [hg]; exact Nat.ne_of_lt (blk_lt (g := gb508) (o := .cells #[.int .i64 x509000_1, .int .i64 x509001_1, .int .i64 x509002_1, .int .i64 x509003_1] 98 (0, 0)) (kz BK508)) : gb508 ≠ gb513)); have NB513_508 := Aside0.mk ((by rw [hg]; exact Nat.ne_of_gt (blk_lt (g := gb508) (o := .cells #[.int .i64 x509000_1, .int .i64 x509001_1, .int .i64 x509002_1, .int .i64 x509003_1] 98 (0, 0)) (kz BK508)) : gb513 ≠ gb508)); replace BK508 := Aside0.mk (bbz BK508 hb); have NB511_513 := Aside0.mk ((by rw [hg]; exact Nat.ne_of_lt (blk_lt (g := gb511) (o := .cells #[.int .i64 x512000_1, .int .i64 x512001_1, .int .i64 x512002_1, .int .i64 x512003_1] 98 (0, 0)) (kz BK511)) : gb511 ≠ gb513)); have NB513_511 := Aside0.mk ((by rw [hg]; exact Nat.ne_of_gt (blk_lt (g := gb511) (o := .cells #[.int .i64 x512000_1, .int .i64 x512001_1, .int .i64 x512002_1, .int .i64 x512003_1] 98 (0, 0)) (kz BK511)) : gb513 ≠ gb511)); replace BK511 := Aside0.mk (bbz BK511 hb); clear hb hbox hg; have hnb23 := NB513_508.out; have hnc23 := NB508_513.out; have hnb24 := NB513_511.out; have hnc24 := NB511_513.out; obtain ⟨hcz25_0, hcz25_1, hfz25_0, hfz25_1⟩ := cells2 BK513) | ((with_reducible refine gt (some 25) rfl ?_); refine gc Try.func123 (impl_IsPoint.calls ((rd_T82 l0 x20_1).f0) ((rd_T82 l0 x20_1).f1) true _ A16.out) ?_; rintro e w26 ⟨rfl, hb⟩; refine ⟨_, rfl, ?_⟩; replace BK508 := Aside0.mk (bbz BK508 hb); replace BK511 := Aside0.mk (bbz BK511 hb); replace BK513 := Aside0.mk (blk_below (g := gb513) (o := .cells #[.int .i64 ((rd_T82 l0 x20_1).f0), .int .i64 ((rd_T82 l0 x20_1).f1)] 82 (0, 0)) (by (with_reducible repeat (first | refine blk_drewN ?_ _ | refine blk_drew ?_ | refine blk_alloc ?_ _)); refine blk_put (cs := #[.int .i64 ((rd_T82 l0 x20_1).f0), .int .i64 0]) ?_ 1 _ rfl; (with_reducible repeat (first | refine blk_drewN ?_ _ | refine blk_drew ?_ | refine blk_alloc ?_ _)); refine blk_put (cs := #[.int .i64 0, .int .i64 0]) ?_ 0 _ rfl; (with_reducible repeat (first | refine blk_drewN ?_ _ | refine blk_drew ?_ | refine blk_alloc ?_ _)); exact BK513.out) hb); replace HB := Aside0.mk (below_step bzs hb); (try clear hb))))
         replace BK508 := Aside0.mk (blk_drew BK508.out); replace BK511 := Aside0.mk (blk_drew BK511.out); replace BK513 := Aside0.mk (blk_drew BK513.out); replace HB := Aside0.mk (below_drew1 HB.out); refine start2_ (n := 30) (S := fun w' => w'.cell? ⟨gb513, 0, none⟩ = some (.int .i64 ((rd_T82 l0 x20_1).f0)) ∧ w'.cell? ⟨gb513, 1, none⟩ = some (.int .i64 ((rd_T82 l0 x20_1).f1))) (T := fun w' => w'.cell? ⟨gb511, 0, none⟩ = some (.int .i64 x512000_1) ∧ w'.cell? ⟨gb511, 1, none⟩ = some (.int .i64 x512001_1) ∧ w'.cell? ⟨gb511, 2, none⟩ = some (.int .i64 x512002_1) ∧ w'.cell? ⟨gb511, 3, none⟩ = some (.int .i64 x512003_1)) (ds := [27, 29]) #[F,F,F,F,F,F,F,F,F,F,F,F,F,F,F,F,F,F,F,F,F,F,F,F,F,F,F,F,F,F] (by kernel_rfl) rfl rfl ⟨bc BK513 0, bc BK513 1⟩ ⟨bc BK511 0, bc BK511 1, bc BK511 2, bc BK511 3⟩ (fun hS hHeld => ?_); refine with_tab2 impl_BoxOf.tab9 impl_BoxOf.bits9 (fun HT_ HW_ => ?_); generalize w26.drew = w27 at BK508 BK511 BK513 HB hS hHeld ⊢; refine pure2_ (i := 0) (N := some 28) (v := ?_) (a' := ?_) #[T,F,F,F,F,F,F,F,F,F,F,F,F,F,F,F,F,F,F,F,F,F,F,F,F,F,F,F,F,F] rfl rfl (take_ofW HT_.out HW_.out (by kernel_rfl)) (fun _ _ _ h => h) (Or.inl ⟨by rfl, ?_⟩) ?_ ?_; rotate_left
         ·intro w'; go_simp
          with_reducible rfl
         rotate_left
         ·simp only [Act.put, List.setIfInBounds_toArray, List.set_cons_zero, List.set_cons_succ, i64_w, i32_w]
          rfl
         refine pure2_ (i := 1) (N := some 29) (v := ?_) (a' := ?_) #[T,T,F,F,F,F,F,F,F,F,F,F,F,F,F,F,F,F,F,F,F,F,F,F,F,F,F,F,F,F] rfl rfl (take_ofW HT_.out HW_.out (by kernel_rfl)) (fun _ _ _ h => h) (Or.inl ⟨by rfl, ?_⟩) ?_ ?_; rotate_left
         ·intro w'; go_simp
          with_reducible rfl
         rotate_left
         ·simp only [Act.put, List.setIfInBounds_toArray, List.set_cons_zero, List.set_cons_succ, i64_w, i32_w]
          rfl
         refine pure2_ (i := 3) (N := some 31) (v := ?_) (a' := ?_) #[T,T,F,T,F,F,F,F,F,F,F,F,F,F,F,F,F,F,F,F,F,F,F,F,F,F,F,F,F,F] rfl rfl (take_ofW HT_.out HW_.out (by kernel_rfl)) (fun _ _ _ h => h) (Or.inl ⟨by rfl, ?_⟩) ?_ ?_; rotate_left
         ·intro w'; go_simp
          with_reducible rfl
         rotate_left
         ·simp only [Act.put, List.setIfInBounds_toArray, List.set_cons_zero, List.set_cons_succ, i64_w, i32_w]
          rfl
         refine pure2_ (i := 6) (N := some 34) (v := ?_) (a' := ?_) #[T,T,F,T,F,F,T,F,F,F,F,F,F,F,F,F,F,F,F,F,F,F,F,F,F,F,F,F,F,F] rfl rfl (take_ofW HT_.out HW_.out (by kernel_rfl)) (fun _ _ _ h => h) (Or.inl ⟨by rfl, ?_⟩) ?_ ?_; rotate_left
         ·intro w'; go_simp
          with_reducible rfl
         rotate_left
         ·simp only [Act.put, List.setIfInBounds_toArray, List.set_cons_zero, List.set_cons_succ, i64_w, i32_w]
          rfl
         refine pure2_ (i := 7) (N := some 35) (v := ?_) (a' := ?_) #[T,T,F,T,F,F,T,T,F,F,F,F,F,F,F,F,F,F,F,F,F,F,F,F,F,F,F,F,F,F] rfl rfl (take_ofW HT_.out HW_.out (by kernel_rfl)) (fun _ _ _ h => h) (Or.inl ⟨by rfl, ?_⟩) ?_ ?_; rotate_left
         ·intro w'; go_simp
          with_reducible rfl
         rotate_left
         ·simp only [Act.put, List.setIfInBounds_toArray, List.set_cons_zero, List.set_cons_succ, i64_w, i32_w]
          rfl
         refine pure2_ (i := 9) (N := some 37) (v := ?_) (a' := ?_) #[T,T,F,T,F,F,T,T,F,T,F,F,F,F,F,F,F,F,F,F,F,F,F,F,F,F,F,F,F,F] rfl rfl (take_ofW HT_.out HW_.out (by kernel_rfl)) (fun _ _ _ h => h) (Or.inl ⟨by rfl, ?_⟩) ?_ ?_; rotate_left
         ·intro w'; go_simp
          with_reducible rfl
         rotate_left
         ·simp only [Act.put, List.setIfInBounds_toArray, List.set_cons_zero, List.set_cons_succ, i64_w, i32_w]
          rfl
         refine pure2_ (i := 13) (N := some 41) (v := ?_) (a' := ?_) #[T,T,F,T,F,F,T,T,F,T,F,F,F,T,F,F,F,F,F,F,F,F,F,F,F,F,F,F,F,F] rfl rfl (take_ofW HT_.out HW_.out (by kernel_rfl)) (fun _ _ _ h => h) (Or.inl ⟨by rfl, ?_⟩) ?_ ?_; rotate_left
         ·intro w'; go_simp
          with_reducible rfl
         rotate_left
         ·simp only [Act.put, List.setIfInBounds_toArray, List.set_cons_zero, List.set_cons_succ, i64_w, i32_w]
          rfl
         refine pure2_ (i := 14) (N := some 42) (v := ?_) (a' := ?_) #[T,T,F,T,F,F,T,T,F,T,F,F,F,T,T,F,F,F,F,F,F,F,F,F,F,F,F,F,F,F] rfl rfl (take_ofW HT_.out HW_.out (by kernel_rfl)) (fun _ _ _ h => h) (Or.inl ⟨by rfl, ?_⟩) ?_ ?_; rotate_left
         ·intro w'; go_simp
          with_reducible rfl
         rotate_left
         ·simp only [Act.put, List.setIfInBounds_toArray, List.set_cons_zero, List.set_cons_succ, i64_w, i32_w]
          rfl
         refine pure2_ (i := 16) (N := some 44) (v := ?_) (a' := ?_) #[T,T,F,T,F,F,T,T,F,T,F,F,F,T,T,F,T,F,F,F,F,F,F,F,F,F,F,F,F,F] rfl rfl (take_ofW HT_.out HW_.out (by kernel_rfl)) (fun _ _ _ h => h) (Or.inl ⟨by rfl, ?_⟩) ?_ ?_; rotate_left
         ·intro w'; go_simp
          with_reducible rfl
         rotate_left
         ·simp only [Act.put, List.setIfInBounds_toArray, List.set_cons_zero, List.set_cons_succ, i64_w, i32_w]
          rfl
         refine pure2_ (i := 19) (N := some 47) (v := ?_) (a' := ?_) #[T,T,F,T,F,F,T,T,F,T,F,F,F,T,T,F,T,F,F,T,F,F,F,F,F,F,F,F,F,F] rfl rfl (take_ofW HT_.out HW_.out (by kernel_rfl)) (fun _ _ _ h => h) (Or.inl ⟨by rfl, ?_⟩) ?_ ?_; rotate_left
         ·intro w'; go_simp
          with_reducible rfl
         rotate_left
         ·simp only [Act.put, List.setIfInBounds_toArray, List.set_cons_zero, List.set_cons_succ, i64_w, i32_w]
          rfl
         refine pure2_ (i := 20) (N := some 48) (v := ?_) (a' := ?_) #[T,T,F,T,F,F,T,T,F,T,F,F,F,T,T,F,T,F,F,T,T,F,F,F,F,F,F,F,F,F] rfl rfl (take_ofW HT_.out HW_.out (by kernel_rfl)) (fun _ _ _ h => h) (Or.inl ⟨by rfl, ?_⟩) ?_ ?_; rotate_left
         ·intro w'; go_simp
          with_reducible rfl
         rotate_left
         ·simp only [Act.put, List.setIfInBounds_toArray, List.set_cons_zero, List.set_cons_succ, i64_w, i32_w]
          rfl
         refine pure2_ (i := 22) (N := some 50) (v := ?_) (a' := ?_) #[T,T,F,T,F,F,T,T,F,T,F,F,F,T,T,F,T,F,F,T,T,F,T,F,F,F,F,F,F,F] rfl rfl (take_ofW HT_.out HW_.out (by kernel_rfl)) (fun _ _ _ h => h) (Or.inl ⟨by rfl, ?_⟩) ?_ ?_; rotate_left
         ·intro w'; go_simp
          with_reducible rfl
         rotate_left
         ·simp only [Act.put, List.setIfInBounds_toArray, List.set_cons_zero, List.set_cons_succ, i64_w, i32_w]
          rfl
         refine takeT_ (i := 2) (N := some 30) (v := ?_) (a' := ?_) #[T,T,T,T,F,F,T,T,F,T,F,F,F,T,T,F,T,F,F,T,T,F,T,F,F,F,F,F,F,F] rfl rfl (take_ofW HT_.out HW_.out (by kernel_rfl)) (fun _ _ _ h => h) (Or.inl ⟨by rfl, ?_⟩) hHeld ?_ ?_; rotate_left
         ·rintro w' ⟨s0, s1, s2, s3⟩; go_simp
          with_reducible rfl
         rotate_left
         ·simp only [Act.put, List.setIfInBounds_toArray, List.set_cons_zero, List.set_cons_succ, i64_w, i32_w]
          rfl
         refine takeS_ (i := 4) (N := some 32) (v := ?_) (a' := ?_) #[T,T,T,T,T,F,T,T,F,T,F,F,F,T,T,F,T,F,F,T,T,F,T,F,F,F,F,F,F,F] rfl rfl (take_ofW HT_.out HW_.out (by kernel_rfl)) (fun _ _ _ h => h) (Or.inl ⟨by rfl, ?_⟩) hS ?_ ?_; rotate_left
         ·rintro w' ⟨s4, s5⟩; go_simp
          with_reducible rfl
         rotate_left
         ·simp only [Act.put, List.setIfInBounds_toArray, List.set_cons_zero, List.set_cons_succ, i64_w, i32_w]
          rfl
         refine pure2_ (i := 5) (N := some 33) (v := ?_) (a' := ?_) #[T,T,T,T,T,T,T,T,F,T,F,F,F,T,T,F,T,F,F,T,T,F,T,F,F,F,F,F,F,F] rfl rfl (take_ofW HT_.out HW_.out (by kernel_rfl)) (fun _ _ _ h => h) (Or.inl ⟨by rfl, ?_⟩) ?_ ?_; rotate_left
         ·intro w'; go_simp
          with_reducible rfl
         rotate_left
         ·simp only [Act.put, List.setIfInBounds_toArray, List.set_cons_zero, List.set_cons_succ, i64_w, i32_w]
          rfl
         refine takeT_ (i := 8) (N := some 36) (v := ?_) (a' := ?_) #[T,T,T,T,T,T,T,T,T,T,F,F,F,T,T,F,T,F,F,T,T,F,T,F,F,F,F,F,F,F] rfl rfl (take_ofW HT_.out HW_.out (by kernel_rfl)) (fun _ _ _ h => h) (Or.inl ⟨by rfl, ?_⟩) hHeld ?_ ?_; rotate_left
         ·rintro w' ⟨s0, s1, s2, s3⟩; go_simp
          with_reducible rfl
         rotate_left
         ·simp only [Act.put, List.setIfInBounds_toArray, List.set_cons_zero, List.set_cons_succ, i64_w, i32_w]
          rfl
         refine takeS_ (i := 10) (N := some 38) (v := ?_) (a' := ?_) #[T,T,T,T,T,T,T,T,T,T,T,F,F,T,T,F,T,F,F,T,T,F,T,F,F,F,F,F,F,F] rfl rfl (take_ofW HT_.out HW_.out (by kernel_rfl)) (fun _ _ _ h => h) (Or.inl ⟨by rfl, ?_⟩) hS ?_ ?_; rotate_left
         ·rintro w' ⟨s4, s5⟩; go_simp
          with_reducible rfl
         rotate_left
         ·simp only [Act.put, List.setIfInBounds_toArray, List.set_cons_zero, List.set_cons_succ, i64_w, i32_w]
          rfl
         refine pure2_ (i := 11) (N := some 39) (v := ?_) (a' := ?_) #[T,T,T,T,T,T,T,T,T,T,T,T,F,T,T,F,T,F,F,T,T,F,T,F,F,F,F,F,F,F] rfl rfl (take_ofW HT_.out HW_.out (by kernel_rfl)) (fun _ _ _ h => h) (Or.inl ⟨by rfl, ?_⟩) ?_ ?_; rotate_left
         ·intro w'; go_simp
          with_reducible rfl
         rotate_left
         ·simp only [Act.put, List.setIfInBounds_toArray, List.set_cons_zero, List.set_cons_succ, i64_w, i32_w]
          rfl
         refine pure2_ (i := 12) (N := some 40) (v := ?_) (a' := ?_) #[T,T,T,T,T,T,T,T,T,T,T,T,T,T,T,F,T,F,F,T,T,F,T,F,F,F,F,F,F,F] rfl rfl (take_ofW HT_.out HW_.out (by kernel_rfl)) (fun _ _ _ h => h) (Or.inl ⟨by rfl, ?_⟩) ?_ ?_; rotate_left
         ·intro w'; go_simp
          with_reducible rfl
         rotate_left
         ·simp only [Act.put, List.setIfInBounds_toArray, List.set_cons_zero, List.set_cons_succ, i64_w, i32_w]
          rfl
         refine takeT_ (i := 15) (N := some 43) (v := ?_) (a' := ?_) #[T,T,T,T,T,T,T,T,T,T,T,T,T,T,T,T,T,F,F,T,T,F,T,F,F,F,F,F,F,F] rfl rfl (take_ofW HT_.out HW_.out (by kernel_rfl)) (fun _ _ _ h => h) (Or.inl ⟨by rfl, ?_⟩) hHeld ?_ ?_; rotate_left
         ·rintro w' ⟨s0, s1, s2, s3⟩; go_simp
          with_reducible rfl
         rotate_left
         ·simp only [Act.put, List.setIfInBounds_toArray, List.set_cons_zero, List.set_cons_succ, i64_w, i32_w]
          rfl
         refine takeS_ (i := 17) (N := some 45) (v := ?_) (a' := ?_) #[T,T,T,T,T,T,T,T,T,T,T,T,T,T,T,T,T,T,F,T,T,F,T,F,F,F,F,F,F,F] rfl rfl (take_ofW HT_.out HW_.out (by kernel_rfl)) (fun _ _ _ h => h) (Or.inl ⟨by rfl, ?_⟩) hS ?_ ?_; rotate_left
         ·rintro w' ⟨s4, s5⟩; go_simp
          with_reducible rfl
         rotate_left
         ·simp only [Act.put, List.setIfInBounds_toArray, List.set_cons_zero, List.set_cons_succ, i64_w, i32_w]
          rfl
         refine pure2_ (i := 18) (N := some 46) (v := ?_) (a' := ?_) #[T,T,T,T,T,T,T,T,T,T,T,T,T,T,T,T,T,T,T,T,T,F,T,F,F,F,F,F,F,F] rfl rfl (take_ofW HT_.out HW_.out (by kernel_rfl)) (fun _ _ _ h => h) (Or.inl ⟨by rfl, ?_⟩) ?_ ?_; rotate_left
         ·intro w'; go_simp
          with_reducible rfl
         rotate_left
         ·simp only [Act.put, List.setIfInBounds_toArray, List.set_cons_zero, List.set_cons_succ, i64_w, i32_w]
          rfl
         refine takeT_ (i := 21) (N := some 49) (v := ?_) (a' := ?_) #[T,T,T,T,T,T,T,T,T,T,T,T,T,T,T,T,T,T,T,T,T,T,T,F,F,F,F,F,F,F] rfl rfl (take_ofW HT_.out HW_.out (by kernel_rfl)) (fun _ _ _ h => h) (Or.inl ⟨by rfl, ?_⟩) hHeld ?_ ?_; rotate_left
         ·rintro w' ⟨s0, s1, s2, s3⟩; go_simp
          with_reducible rfl
         rotate_left
         ·simp only [Act.put, List.setIfInBounds_toArray, List.set_cons_zero, List.set_cons_succ, i64_w, i32_w]
          rfl
         refine takeS_ (i := 23) (N := some 51) (v := ?_) (a' := ?_) #[T,T,T,T,T,T,T,T,T,T,T,T,T,T,T,T,T,T,T,T,T,T,T,T,F,F,F,F,F,F] rfl rfl (take_ofW HT_.out HW_.out (by kernel_rfl)) (fun _ _ _ h => h) (Or.inl ⟨by rfl, ?_⟩) hS ?_ ?_; rotate_left
         ·rintro w' ⟨s4, s5⟩; go_simp
          with_reducible rfl
         rotate_left
         ·simp only [Act.put, List.setIfInBounds_toArray, List.set_cons_zero, List.set_cons_succ, i64_w, i32_w]
          rfl
         refine pure2_ (i := 24) (N := some 52) (v := ?_) (a' := ?_) #[T,T,T,T,T,T,T,T,T,T,T,T,T,T,T,T,T,T,T,T,T,T,T,T,T,F,F,F,F,F] rfl rfl (take_ofW HT_.out HW_.out (by kernel_rfl)) (fun _ _ _ h => h) (Or.inl ⟨by rfl, ?_⟩) ?_ ?_; rotate_left
         ·intro w'; go_simp
          with_reducible rfl
         rotate_left
         ·simp only [Act.put, List.setIfInBounds_toArray, List.set_cons_zero, List.set_cons_succ, i64_w, i32_w]
          rfl
         refine pure2_ (i := 25) (N := some 53) (v := ?_) (a' := ?_) #[T,T,T,T,T,T,T,T,T,T,T,T,T,T,T,T,T,T,T,T,T,T,T,T,T,T,F,F,F,F] rfl rfl (take_ofW HT_.out HW_.out (by kernel_rfl)) (fun _ _ _ h => h) (Or.inl ⟨by rfl, ?_⟩) ?_ ?_; rotate_left
         ·intro w'; go_simp
          with_reducible rfl
         rotate_left
         ·simp only [Act.put, List.setIfInBounds_toArray, List.set_cons_zero, List.set_cons_succ, i64_w, i32_w]
          rfl
         refine pure2_ (i := 26) (N := some 54) (v := ?_) (a' := ?_) #[T,T,T,T,T,T,T,T,T,T,T,T,T,T,T,T,T,T,T,T,T,T,T,T,T,T,T,F,F,F] rfl rfl (take_ofW HT_.out HW_.out (by kernel_rfl)) (fun _ _ _ h => h) (Or.inl ⟨by rfl, ?_⟩) ?_ ?_; rotate_left
         ·intro w'; go_simp
          with_reducible rfl
         rotate_left
         ·simp only [Act.put, List.setIfInBounds_toArray, List.set_cons_zero, List.set_cons_succ, i64_w, i32_w]
          rfl
         refine last2_ (i := 27) (N := none) #[T,T,T,T,T,T,T,T,T,T,T,T,T,T,T,T,T,T,T,T,T,T,T,T,T,T,T,T,F,F] rfl rfl (one_of HT_.out (by kernel_rfl)) (by decide) (fun K hK => ?_); have hs28 : w27.cell? ⟨gb511, 0, none⟩ = some (.int .i64 x512000_1) := bc BK511 0; have hfs28 := blk_frozen BK511.out 0; have hns28_0 := NB508_511.out; have hns28_2 := NB513_511.out; have hms28_0 := NB511_508.out; have hms28_2 := NB511_513.out; have hs29 : w27.cell? ⟨gb511, 1, none⟩ = some (.int .i64 x512001_1) := bc BK511 1; have hfs29 := blk_frozen BK511.out 1; have hns29_0 := NB508_511.out; have hns29_2 := NB513_511.out; have hms29_0 := NB511_508.out; have hms29_2 := NB511_513.out; refine skip_ (w1 := ?_) (by rfl) rfl ?_ ?_; rotate_left
         ·go_simp
          rfl
         refine hK.out _ _ (fun _ => ⟨(blk_cell (by (with_reducible repeat (first | refine blk_far ?_ NB513_511.out _)); exact BK513.out) 0).trans rfl, (blk_cell (by (with_reducible repeat (first | refine blk_far ?_ NB513_511.out _)); exact BK513.out) 1).trans rfl⟩) ?_; clear hK K; refine pure2_ (i := 28) (N := some 55) (v := ?_) (a' := ?_) #[T,T,T,T,T,T,T,T,T,T,T,T,T,T,T,T,T,T,T,T,T,T,T,T,T,T,T,T,T,F] rfl rfl (take_ofW HT_.out HW_.out (by kernel_rfl)) (fun _ _ _ h => h) (Or.inl ⟨by rfl, ?_⟩) ?_ ?_; rotate_left
         ·intro w'; go_simp
          with_reducible rfl
         rotate_left
         ·simp only [Act.put, List.setIfInBounds_toArray, List.set_cons_zero, List.set_cons_succ, i64_w, i32_w]
          rfl
         refine last2_ (i := 29) (N := none) #[T,T,T,T,T,T,T,T,T,T,T,T,T,T,T,T,T,T,T,T,T,T,T,T,T,T,T,T,T,T] rfl rfl (one_of HT_.out (by kernel_rfl)) (by decide) (fun K hK => ?_); have hs30 : w27.cell? ⟨gb511, 2, none⟩ = some (.int .i64 x512002_1) := bc BK511 2; have hfs30 := blk_frozen BK511.out 2; have hns30_0 := NB508_511.out; have hns30_2 := NB513_511.out; have hms30_0 := NB511_508.out; have hms30_2 := NB511_513.out; have hs31 : w27.cell? ⟨gb511, 3, none⟩ = some (.int .i64 x512003_1) := bc BK511 3; have hfs31 := blk_frozen BK511.out 3; have hns31_0 := NB508_511.out; have hns31_2 := NB513_511.out; have hms31_0 := NB511_508.out; have hms31_2 := NB511_513.out; refine skip_ (w1 := ?_) (by rfl) rfl ?_ ?_; rotate_left
         ·go_simp
          rfl
         refine hK.out _ _ (fun _ => ⟨(blk_cell (by (with_reducible repeat (first | refine blk_far ?_ NB513_511.out _)); exact BK513.out) 0).trans rfl, (blk_cell (by (with_reducible repeat (first | refine blk_far ?_ NB513_511.out _)); exact BK513.out) 1).trans rfl⟩) ?_; clear hK K; refine done2_ (done_of HT_.out (by kernel_rfl)) ?_; (try go_wp2)
         go_roundg k1
         case measure => have := HK1.out; omega
         case rel => exact ⟨(wrap64 (x20_1 + 1)), (x509000_1), (x509001_1), (x509002_1), (x509003_1), (ji18), (ji19), (ji20), (ji21), rz, H', ⟨by have := HK1.out; omega⟩, ⟨kz BK508⟩, ⟨by (with_reducible repeat (first | refine blk_drewN ?_ _ | refine blk_drew ?_ | refine blk_alloc ?_ _)); refine blk_put (cs := #[.int .i64 ji18, .int .i64 ji19, .int .i64 ji20, .int .i64 x512003_1]) ?_ 3 _ rfl; (with_reducible repeat (first | refine blk_drewN ?_ _ | refine blk_drew ?_ | refine blk_alloc ?_ _)); refine blk_put (cs := #[.int .i64 ji18, .int .i64 ji19, .int .i64 x512002_1, .int .i64 x512003_1]) ?_ 2 _ rfl; (with_reducible repeat (first | refine blk_drewN ?_ _ | refine blk_drew ?_ | refine blk_alloc ?_ _)); refine blk_put (cs := #[.int .i64 ji18, .int .i64 x512001_1, .int .i64 x512002_1, .int .i64 x512003_1]) ?_ 1 _ rfl; (with_reducible repeat (first | refine blk_drewN ?_ _ | refine blk_drew ?_ | refine blk_alloc ?_ _)); refine blk_put (cs := #[.int .i64 x512000_1, .int .i64 x512001_1, .int .i64 x512002_1, .int .i64 x512003_1]) ?_ 0 _ rfl; (with_reducible repeat (first | refine blk_drewN ?_ _ | refine blk_drew ?_ | refine blk_alloc ?_ _)); exact BK511.out⟩, ⟨bzs⟩⟩
        ·replace c17 := Bool.eq_false_iff.mpr c17; subst c17; replace H := iff_ H; simp only [Option.some.injEq, Prod.mk.injEq] at H; obtain ⟨rfl, rfl, rfl, rfl, rfl⟩ := H; have p512 : 0 ≤ (x20_1 : Int) := of_decide_eq_true az; have q512 : x20_1 < (l0.length : Int) := of_decide_eq_true az; obtain ⟨ad512, e512, hx512_0, hx512_1⟩ := at_T82 HR0.out x20_1 p512 q512; obtain rfl : ad509 = ad512 := (by injection e512)
         replace hx512_0 := xz HB hx512_0; replace hx512_1 := xz HB hx512_1; replace p512 := eq_true p512; replace q512 := eq_true q512; go_wp2_with (first | ((with_reducible refine gt (some 6) rfl ?_); refine bx #[.int .i64 0, .int .i64 0] 82 ?_; intro gb513 hg w32 hbox hb; have BK513 := Aside0.mk (hbox); have GW513 := Aside0.mk (gez HB hg); have GE513 := Aside0.mk (gez HB hg); replace HB := Aside0.mk (below_step bzs hb); have NB508_513 := Aside0.mk ((by rw [hg]; exact Nat.ne_of_lt (blk_lt (g := gb508) (o := .cells #[.int .i64 x509000_1, .int .i64 x509001_1, .int .i64 x509002_1, .int .i64 x509003_1] 98 (0, 0)) (kz BK508)) : gb508 ≠ gb513)); have NB513_508 := Aside0.mk ((by rw [hg]; exact Nat.ne_of_gt (blk_lt (g := gb508) (o := .cells #[.int .i64 x509000_1, .int .i64 x509001_1, .int .i64 x509002_1, .int .i64 x509003_1] 98 (0, 0)) (kz BK508)) : gb513 ≠ gb508)); replace BK508 := Aside0.mk (bbz BK508 hb); have NB511_513 := Aside0.mk ((by rw [hg]; exact Nat.ne_of_lt (blk_lt (g := gb511) (o := .cells #[.int .i64 x512000_1, .int .i64 x512001_1, .int .i64 x512002_1, .int .i64 x512003_1] 98 (0, 0)) (kz BK511)) : gb511 ≠ gb513)); have NB513_511 := Aside0.mk ((by rw [hg]; exact Nat.ne_of_gt (blk_lt (g := gb511) (o := .cells #[.int .i64 x512000_1, .int .i64 x512001_1, .int .i64 x512002_1, .int .i64 x512003_1] 98 (0, 0)) (kz BK511)) : gb513 ≠ gb511)); replace BK511 := Aside0.mk (bbz BK511 hb); clear hb hbox hg; have hnb33 := NB513_508.out; have hnc33 := NB508_513.out; have hnb34 := NB513_511.out; have hnc34 := NB511_513.out; obtain ⟨hcz35_0, hcz35_1, hfz35_0, hfz35_1⟩ := cells2 BK513) | ((with_reducible refine gt (some 25) rfl ?_); refine gc Try.func123 (impl_IsPoint.calls ((rd_T82 l0 x20_1).f0) ((rd_T82 l0 x20_1).f1) false _ A16.out) ?_; rintro e w36 ⟨rfl, hb⟩; refine ⟨_, rfl, ?_⟩; replace BK508 := Aside0.mk (bbz BK508 hb); replace BK511 := Aside0.mk (bbz BK511 hb); replace BK513 := Aside0.mk (blk_below (g := gb513) (o := .cells #[.int .i64 ((rd_T82 l0 x20_1).f0), .int .i64 ((rd_T82 l0 x20_1).f1)] 82 (0, 0)) (by (with_reducible repeat (first | refine blk_drewN ?_ _ | refine blk_drew ?_ | refine blk_alloc ?_ _)); refine blk_put (cs := #[.int .i64 ((rd_T82 l0 x20_1).f0), .int .i64 0]) ?_ 1 _ rfl; (with_reducible repeat (first | refine blk_drewN ?_ _ | refine blk_drew ?_ | refine blk_alloc ?_ _)); refine blk_put (cs := #[.int .i64 0, .int .i64 0]) ?_ 0 _ rfl; (with_reducible repeat (first | refine blk_drewN ?_ _ | refine blk_drew ?_ | refine blk_alloc ?_ _)); exact BK513.out) hb); replace HB := Aside0.mk (below_step bzs hb); (try clear hb); have hnb37 := NB508_511.out; have hnc37 := NB511_508.out; obtain ⟨hcz38_0, hcz38_1, hcz38_2, hcz38_3, hfz38_0, hfz38_1, hfz38_2, hfz38_3⟩ := cells4 BK508))
         refine bodyPost_ret (results_ct rfl _ _ gb508 98 #[.int .i64 0, .int .i64 0, .int .i64 0, .int .i64 0] (0, 0) _ rfl (by (with_reducible repeat (first | refine blk_drewN ?_ _ | refine blk_drew ?_ | refine blk_alloc ?_ _)); refine blk_put (cs := #[.int .i64 0, .int .i64 0, .int .i64 0, .int .i64 x509003_1]) ?_ 3 _ rfl; (with_reducible repeat (first | refine blk_drewN ?_ _ | refine blk_drew ?_ | refine blk_alloc ?_ _)); refine blk_put (cs := #[.int .i64 0, .int .i64 0, .int .i64 x509002_1, .int .i64 x509003_1]) ?_ 2 _ rfl; (with_reducible repeat (first | refine blk_drewN ?_ _ | refine blk_drew ?_ | refine blk_alloc ?_ _)); refine blk_put (cs := #[.int .i64 0, .int .i64 x509001_1, .int .i64 x509002_1, .int .i64 x509003_1]) ?_ 1 _ rfl; (with_reducible repeat (first | refine blk_drewN ?_ _ | refine blk_drew ?_ | refine blk_alloc ?_ _)); refine blk_put (cs := #[.int .i64 x509000_1, .int .i64 x509001_1, .int .i64 x509002_1, .int .i64 x509003_1]) ?_ 0 _ rfl; (with_reducible repeat (first | refine blk_drewN ?_ _ | refine blk_drew ?_ | refine blk_alloc ?_ _)); exact BK508.out) Try.underlying98 rfl (by kernel_rfl)) rfl ?_
         exact ⟨ez, bzs⟩
       ·rw [if_neg c15] at H
        exact absurd H (by simp)
      ·rw [if_neg c14] at H
       exact absurd H (by simp)
     ·rw [if_neg c13] at H; have c13b0 := decide_eq_false c13; clear c13; simp only [Option.some.injEq, Prod.mk.injEq] at H; obtain ⟨rfl, rfl, rfl, rfl, rfl⟩ := H; have hnb39 := NB511_508.out; have hnc39 := NB508_511.out; obtain ⟨hcz40_0, hcz40_1, hcz40_2, hcz40_3, hfz40_0, hfz40_1, hfz40_2, hfz40_3⟩ := cells4 BK511; obtain ⟨hcz41_0, hcz41_1, hcz41_2, hcz41_3, hfz41_0, hfz41_1, hfz41_2, hfz41_3⟩ := cells4 BK508; go_wp2; refine bodyPost_ret (results_ct rfl _ _ gb508 98 #[.int .i64 x512000_1, .int .i64 x512001_1, .int .i64 x512002_1, .int .i64 x512003_1] (0, 0) _ rfl (by (with_reducible repeat (first | refine blk_drewN ?_ _ | refine blk_drew ?_ | refine blk_alloc ?_ _)); refine blk_put (cs := #[.int .i64 x512000_1, .int .i64 x512001_1, .int .i64 x512002_1, .int .i64 x509003_1]) ?_ 3 _ rfl; (with_reducible repeat (first | refine blk_drewN ?_ _ | refine blk_drew ?_ | refine blk_alloc ?_ _)); refine blk_put (cs := #[.int .i64 x512000_1, .int .i64 x512001_1, .int .i64 x509002_1, .int .i64 x509003_1]) ?_ 2 _ rfl; (with_reducible repeat (first | refine blk_drewN ?_ _ | refine blk_drew ?_ | refine blk_alloc ?_ _)); refine blk_put (cs := #[.int .i64 x512000_1, .int .i64 x509001_1, .int .i64 x509002_1, .int .i64 x509003_1]) ?_ 1 _ rfl; (with_reducible repeat (first | refine blk_drewN ?_ _ | refine blk_drew ?_ | refine blk_alloc ?_ _)); refine blk_put (cs := #[.int .i64 x509000_1, .int .i64 x509001_1, .int .i64 x509002_1, .int .i64 x509003_1]) ?_ 0 _ rfl; (with_reducible repeat (first | refine blk_drewN ?_ _ | refine blk_drew ?_ | refine blk_alloc ?_ _)); exact BK508.out) Try.underlying98 rfl (by kernel_rfl)) rfl ?_
      exact ⟨ez, bzs⟩
  ·rw [if_neg c5] at H
   exact absurd H (by simp)
theorem impl_FindFeature.calls (A0 : Option Addr) (c0 : Nat) (l0 : List S29) (a1 : Int) (r : Int) (w : World) (hr0 : Kd.C k29 w A0 l0.length l0) (hc0 : l0.length ≤ c0) (h : impl_FindFeature.f l0 a1 = some r) :
    Calls Try.prog 94 #[.slice A0 l0.length c0, .int .i64 a1] w fun e w' => e = .returned (.int .i64 r) ∧ Below w.heap.size w w' := by
  unfold impl_FindFeature.f at h
  split at h
  · rename_i hl
    obtain rfl := Option.some.inj h; have HR := Aside0.mk hr0; have HB := Aside0.mk (below_alloc (Below.refl _ w) (Obj.cells #[Value.int .i64 a1] 3)); clear hr0; have hnew : (w.alloc (Obj.cells #[Value.int .i64 a1] 3)).cell? ⟨w.heap.size, 0, none⟩ = some (.int .i64 a1) := by
      have : (w.alloc (Obj.cells #[Value.int .i64 a1] 3)).heap[w.heap.size]? = some (Obj.cells #[Value.int .i64 a1] 3) := by simp [World.alloc, -World.alloc_eq]
      simp only [World.cell?, this]
      rfl
    go_enter Try.func94, Try.ntmps94; go_wp2_with (first
      | (go_at_call 137; refine (ff_ifunc A0 c0 l0 w.heap.size a1 _ (Kd.C_alloc HR.out _) hc0 hl hnew).mono ?_; rintro e w' ⟨rfl, hb⟩))
    go_ret
    exact ⟨rfl, below_then HB.out HB.out.size hb⟩
  · cases h
end
end Go.Proofs.Ytdfehjfmihokpaa.PFnExactTileDigest
