-- Written by a program of this session's: the kit's print, turned (turnprint.py): functions, and that Go comes to just their answers.
import Derived.Test.YtdfehjfmihokpaaZ
import Derived.Test.YtdfehjfmihokpaaPFnExactSizeAtx0
import Derived.Test.YtdfehjfmihokpaaPFnExactSizeAtx10
import Derived.Test.YtdfehjfmihokpaaPFnExactSizeAtx12
import Derived.Test.YtdfehjfmihokpaaPFnExactSizeAtx14
namespace Go.Proofs.Ytdfehjfmihokpaa.PFnExactSizeAt
open Go.RowKit Go.Proofs.YtdfehjfmihokpaaW.PrintWords Go.Proofs.YtdfehjfmihokpaaW.PrintLast Go.Proofs.YtdfehjfmihokpaaW.PrintMore Go.Proofs.YtdfehjfmihokpaaGeo Go.Proofs.YtdfehjfmihokpaaHand Go.Proofs.YtdfehjfmihokpaaZ
attribute [local go_sem] max2_int min2_int max_two min_two max_three min_three max_four min_four   -- for this text's walks alone
set_option linter.unusedVariables false
set_option linter.unusedSimpArgs false

/-! ### impl_CornerSize: function 66 -/
def impl_CornerSize.f (k : Nat) (l0 : List (S82)) (a1 : Int) : Option (Int) := (impl_IsRing.f k l0).bind fun t277 => (if t277 = true then ((impl_InRange.f a1 0 (wrap64 ((l0.length : Int) - 1))).bind fun t278 => (if t278 = true then (if (l0.length : Int) = 0 then (none) else (if 0 ≤ (Int.tmod (wrap64 ((wrap64 (a1 + (l0.length : Int))) - 1)) (l0.length : Int)) then (if (Int.tmod (wrap64 ((wrap64 (a1 + (l0.length : Int))) - 1)) (l0.length : Int)) < (l0.length : Int) then (if 0 ≤ a1 then (if a1 < (l0.length : Int) then (if 0 ≤ (Int.tmod (wrap64 (a1 + 1)) (l0.length : Int)) then (if (Int.tmod (wrap64 (a1 + 1)) (l0.length : Int)) < (l0.length : Int) then ((impl_twice.f ((rd_T82 l0 (Int.tmod (wrap64 ((wrap64 (a1 + (l0.length : Int))) - 1)) (l0.length : Int))).f0) ((rd_T82 l0 (Int.tmod (wrap64 ((wrap64 (a1 + (l0.length : Int))) - 1)) (l0.length : Int))).f1) ((rd_T82 l0 a1).f0) ((rd_T82 l0 a1).f1) ((rd_T82 l0 (Int.tmod (wrap64 (a1 + 1)) (l0.length : Int))).f0) ((rd_T82 l0 (Int.tmod (wrap64 (a1 + 1)) (l0.length : Int))).f1)).bind fun t282 => (some t282)) else (none)) else (none)) else (none)) else (none)) else (none)) else (none))) else (some (-1)))) else (some (-1)))
theorem impl_CornerSize.mono : ∀ a0 a1 k, LeO (impl_CornerSize.f k a0 a1) (impl_CornerSize.f (k + 1) a0 a1) := by
 intro a0 a1 k
 unfold impl_CornerSize.f
 repeat' first
   | (with_reducible exact impl_IsRing.mono _ _)
   | (with_reducible exact LeO.refl _)
   | (with_reducible exact LeO.none _)
   | (with_reducible refine LeO.ite ?_ ?_)
   | (with_reducible refine LeO.bind ?_ (fun _ => ?_))
   | exact impl_IsRing.mono _ _
   | exact LeO.none _
   | refine LeO.ite ?_ ?_
   | refine LeO.bind ?_ (fun _ => ?_)
def impl_CornerSize.T4 : Bool × List (List Nat × List Nat) := (true, [([], []), ([], []), ([], []), ([1, 2], [1, 2]), ([3], [3]), ([], []), ([4, 5], [4, 5]), ([0, 6], [0, 6]), ([7], [7]), ([], []), ([], []), ([9, 10], [9, 10]), ([11], [11]), ([], []), ([], []), ([14], [14]), ([], []), ([15, 16], [15, 16]), ([13, 17], [13, 17]), ([18], [18]), ([8, 12, 19], [8, 12, 19]), ([20, 20, 0, 1, 2, 3, 4, 5, 6, 7, 8, 9, 10, 11, 12, 13, 14, 15, 16, 17, 18, 19, 20], [20])])
def impl_CornerSize.B4 : List Nat := [0, 0, 0, 6, 14, 0, 62, 127, 255, 0, 0, 1536, 3584, 0, 0, 16384, 0, 114688, 253952, 516096, 1048575, 2097151]
theorem impl_CornerSize.tab4 : rtab .any (opsOf Try.f66 4) = impl_CornerSize.T4 := by kernel_rfl
theorem impl_CornerSize.bits4 : waitsOk impl_CornerSize.T4.2 impl_CornerSize.B4 = true := by kernel_rfl
set_option maxHeartbeats 8000000 in
set_option maxRecDepth 100000 in
theorem impl_CornerSize.calls (k : Nat) (A0 : Option Addr) (c0 : Nat) (l0 : List (S82)) (a1 : Int) (r : Int) (w : World) (hr0 : Kd.C k82 w A0 l0.length l0) (hc0 : l0.length ≤ c0) (h : impl_CornerSize.f k l0 a1 = some r) :
  Calls Try.prog 66 #[.slice A0 l0.length c0, .int .i64 a1] w fun e w' => e = .returned (.int .i64 r) ∧ Below w.heap.size w w' := by
 have hu82 := Try.underlying82
 have HR0 := Aside0.mk hr0
 have HC0 := Aside0.mk hc0
 clear hr0 hc0
 have HB := Aside0.mk (Below.refl w.heap.size w)
 have H : ((impl_IsRing.f k l0).bind fun t277 => (if t277 = true then ((impl_InRange.f a1 0 (wrap64 ((l0.length : Int) - 1))).bind fun t278 => (if t278 = true then (if (l0.length : Int) = 0 then (none) else (if 0 ≤ (Int.tmod (wrap64 ((wrap64 (a1 + (l0.length : Int))) - 1)) (l0.length : Int)) then (if (Int.tmod (wrap64 ((wrap64 (a1 + (l0.length : Int))) - 1)) (l0.length : Int)) < (l0.length : Int) then (if 0 ≤ a1 then (if a1 < (l0.length : Int) then (if 0 ≤ (Int.tmod (wrap64 (a1 + 1)) (l0.length : Int)) then (if (Int.tmod (wrap64 (a1 + 1)) (l0.length : Int)) < (l0.length : Int) then ((impl_twice.f ((rd_T82 l0 (Int.tmod (wrap64 ((wrap64 (a1 + (l0.length : Int))) - 1)) (l0.length : Int))).f0) ((rd_T82 l0 (Int.tmod (wrap64 ((wrap64 (a1 + (l0.length : Int))) - 1)) (l0.length : Int))).f1) ((rd_T82 l0 a1).f0) ((rd_T82 l0 a1).f1) ((rd_T82 l0 (Int.tmod (wrap64 (a1 + 1)) (l0.length : Int))).f0) ((rd_T82 l0 (Int.tmod (wrap64 (a1 + 1)) (l0.length : Int))).f1)).bind fun t282 => (some t282)) else (none)) else (none)) else (none)) else (none)) else (none)) else (none))) else (some (-1)))) else (some (-1)))) = some r := h
 clear h
 replace H := Option.bind_eq_some_iff.mp H
 obtain ⟨t277, A30, H⟩ := H
 replace H : (if t277 = true then ((impl_InRange.f a1 0 (wrap64 ((l0.length : Int) - 1))).bind fun t278 => (if t278 = true then (if (l0.length : Int) = 0 then (none) else (if 0 ≤ (Int.tmod (wrap64 ((wrap64 (a1 + (l0.length : Int))) - 1)) (l0.length : Int)) then (if (Int.tmod (wrap64 ((wrap64 (a1 + (l0.length : Int))) - 1)) (l0.length : Int)) < (l0.length : Int) then (if 0 ≤ a1 then (if a1 < (l0.length : Int) then (if 0 ≤ (Int.tmod (wrap64 (a1 + 1)) (l0.length : Int)) then (if (Int.tmod (wrap64 (a1 + 1)) (l0.length : Int)) < (l0.length : Int) then ((impl_twice.f ((rd_T82 l0 (Int.tmod (wrap64 ((wrap64 (a1 + (l0.length : Int))) - 1)) (l0.length : Int))).f0) ((rd_T82 l0 (Int.tmod (wrap64 ((wrap64 (a1 + (l0.length : Int))) - 1)) (l0.length : Int))).f1) ((rd_T82 l0 a1).f0) ((rd_T82 l0 a1).f1) ((rd_T82 l0 (Int.tmod (wrap64 (a1 + 1)) (l0.length : Int))).f0) ((rd_T82 l0 (Int.tmod (wrap64 (a1 + 1)) (l0.length : Int))).f1)).bind fun t282 => (some t282)) else (none)) else (none)) else (none)) else (none)) else (none)) else (none))) else (some (-1)))) else (some (-1))) = some r := H
 have A3 := Aside0.mk A30
 clear A30
 by_cases c4 : t277 = true
 ·subst c4
  have H1 : ((impl_InRange.f a1 0 (wrap64 ((l0.length : Int) - 1))).bind fun t278 => (if t278 = true then (if (l0.length : Int) = 0 then (none) else (if 0 ≤ (Int.tmod (wrap64 ((wrap64 (a1 + (l0.length : Int))) - 1)) (l0.length : Int)) then (if (Int.tmod (wrap64 ((wrap64 (a1 + (l0.length : Int))) - 1)) (l0.length : Int)) < (l0.length : Int) then (if 0 ≤ a1 then (if a1 < (l0.length : Int) then (if 0 ≤ (Int.tmod (wrap64 (a1 + 1)) (l0.length : Int)) then (if (Int.tmod (wrap64 (a1 + 1)) (l0.length : Int)) < (l0.length : Int) then ((impl_twice.f ((rd_T82 l0 (Int.tmod (wrap64 ((wrap64 (a1 + (l0.length : Int))) - 1)) (l0.length : Int))).f0) ((rd_T82 l0 (Int.tmod (wrap64 ((wrap64 (a1 + (l0.length : Int))) - 1)) (l0.length : Int))).f1) ((rd_T82 l0 a1).f0) ((rd_T82 l0 a1).f1) ((rd_T82 l0 (Int.tmod (wrap64 (a1 + 1)) (l0.length : Int))).f0) ((rd_T82 l0 (Int.tmod (wrap64 (a1 + 1)) (l0.length : Int))).f1)).bind fun t282 => (some t282)) else (none)) else (none)) else (none)) else (none)) else (none)) else (none))) else (some (-1)))) = some r := by rw [if_pos rfl] at H; exact H
  clear H
  have H := H1
  clear H1
  replace H := Option.bind_eq_some_iff.mp H
  obtain ⟨t278, A50, H⟩ := H
  replace H : (if t278 = true then (if (l0.length : Int) = 0 then (none) else (if 0 ≤ (Int.tmod (wrap64 ((wrap64 (a1 + (l0.length : Int))) - 1)) (l0.length : Int)) then (if (Int.tmod (wrap64 ((wrap64 (a1 + (l0.length : Int))) - 1)) (l0.length : Int)) < (l0.length : Int) then (if 0 ≤ a1 then (if a1 < (l0.length : Int) then (if 0 ≤ (Int.tmod (wrap64 (a1 + 1)) (l0.length : Int)) then (if (Int.tmod (wrap64 (a1 + 1)) (l0.length : Int)) < (l0.length : Int) then ((impl_twice.f ((rd_T82 l0 (Int.tmod (wrap64 ((wrap64 (a1 + (l0.length : Int))) - 1)) (l0.length : Int))).f0) ((rd_T82 l0 (Int.tmod (wrap64 ((wrap64 (a1 + (l0.length : Int))) - 1)) (l0.length : Int))).f1) ((rd_T82 l0 a1).f0) ((rd_T82 l0 a1).f1) ((rd_T82 l0 (Int.tmod (wrap64 (a1 + 1)) (l0.length : Int))).f0) ((rd_T82 l0 (Int.tmod (wrap64 (a1 + 1)) (l0.length : Int))).f1)).bind fun t282 => (some t282)) else (none)) else (none)) else (none)) else (none)) else (none)) else (none))) else (some (-1))) = some r := H
  have A5 := Aside0.mk A50
  clear A50
  by_cases c6 : t278 = true
  ·subst c6
   have H1 : (if (l0.length : Int) = 0 then (none) else (if 0 ≤ (Int.tmod (wrap64 ((wrap64 (a1 + (l0.length : Int))) - 1)) (l0.length : Int)) then (if (Int.tmod (wrap64 ((wrap64 (a1 + (l0.length : Int))) - 1)) (l0.length : Int)) < (l0.length : Int) then (if 0 ≤ a1 then (if a1 < (l0.length : Int) then (if 0 ≤ (Int.tmod (wrap64 (a1 + 1)) (l0.length : Int)) then (if (Int.tmod (wrap64 (a1 + 1)) (l0.length : Int)) < (l0.length : Int) then ((impl_twice.f ((rd_T82 l0 (Int.tmod (wrap64 ((wrap64 (a1 + (l0.length : Int))) - 1)) (l0.length : Int))).f0) ((rd_T82 l0 (Int.tmod (wrap64 ((wrap64 (a1 + (l0.length : Int))) - 1)) (l0.length : Int))).f1) ((rd_T82 l0 a1).f0) ((rd_T82 l0 a1).f1) ((rd_T82 l0 (Int.tmod (wrap64 (a1 + 1)) (l0.length : Int))).f0) ((rd_T82 l0 (Int.tmod (wrap64 (a1 + 1)) (l0.length : Int))).f1)).bind fun t282 => (some t282)) else (none)) else (none)) else (none)) else (none)) else (none)) else (none))) = some r := by rw [if_pos rfl] at H; exact H
   clear H
   have H := H1
   clear H1
   by_cases c7 : (l0.length : Int) = 0
   ·rw [if_pos c7] at H
    exact absurd H (by simp)
   ·rw [if_neg c7] at H
    have c7b0 : ((l0.length : Int) == 0) = false := beq_eq_false_iff_ne.mpr c7
    have c7b1 : ((l0.length : Int) != 0) = true := bne_iff_ne.mpr c7
    have c7b2 : ¬ (l0 = []) := fun h_ => c7 (by rw [h_]; rfl)
    obtain ⟨ji8, hji8⟩ : ∃ j_ : Int, (Int.tmod (wrap64 ((wrap64 (a1 + (l0.length : Int))) - 1)) (l0.length : Int)) = j_ := ⟨_, rfl⟩
    replace H : (if 0 ≤ (ji8) then (if (ji8) < (l0.length : Int) then (if 0 ≤ a1 then (if a1 < (l0.length : Int) then (if 0 ≤ (Int.tmod (wrap64 (a1 + 1)) (l0.length : Int)) then (if (Int.tmod (wrap64 (a1 + 1)) (l0.length : Int)) < (l0.length : Int) then ((impl_twice.f ((rd_T82 l0 (ji8)).f0) ((rd_T82 l0 (ji8)).f1) ((rd_T82 l0 a1).f0) ((rd_T82 l0 a1).f1) ((rd_T82 l0 (Int.tmod (wrap64 (a1 + 1)) (l0.length : Int))).f0) ((rd_T82 l0 (Int.tmod (wrap64 (a1 + 1)) (l0.length : Int))).f1)).bind fun t282 => (some t282)) else (none)) else (none)) else (none)) else (none)) else (none)) else (none)) = some r := by first | (rw [hji8] at H; exact H) | (simp only [hji8] at H ⊢; exact H)
    (try rw [hji8] at A3)
    (try rw [hji8] at A5)
    by_cases c9 : 0 ≤ (ji8)
    ·rw [if_pos c9] at H
     have c9b0 : decide (0 ≤ (ji8)) = true := decide_eq_true c9
     clear c9
     by_cases c10 : (ji8) < (l0.length : Int)
     ·rw [if_pos c10] at H
      have c10b0 : decide ((ji8) < (l0.length : Int)) = true := decide_eq_true c10
      clear c10
      by_cases c11 : 0 ≤ a1
      ·rw [if_pos c11] at H
       have c11b0 : decide (0 ≤ a1) = true := decide_eq_true c11
       clear c11
       by_cases c12 : a1 < (l0.length : Int)
       ·rw [if_pos c12] at H
        have c12b0 : decide (a1 < (l0.length : Int)) = true := decide_eq_true c12
        clear c12
        obtain ⟨ji13, hji13⟩ : ∃ j_ : Int, (Int.tmod (wrap64 (a1 + 1)) (l0.length : Int)) = j_ := ⟨_, rfl⟩
        replace H : (if 0 ≤ (ji13) then (if (ji13) < (l0.length : Int) then ((impl_twice.f ((rd_T82 l0 (ji8)).f0) ((rd_T82 l0 (ji8)).f1) ((rd_T82 l0 a1).f0) ((rd_T82 l0 a1).f1) ((rd_T82 l0 (ji13)).f0) ((rd_T82 l0 (ji13)).f1)).bind fun t282 => (some t282)) else (none)) else (none)) = some r := by first | (rw [hji13] at H; exact H) | (simp only [hji13] at H ⊢; exact H)
        (try rw [hji13] at A3)
        (try rw [hji13] at A5)
        by_cases c14 : 0 ≤ (ji13)
        ·rw [if_pos c14] at H
         have c14b0 : decide (0 ≤ (ji13)) = true := decide_eq_true c14
         clear c14
         by_cases c15 : (ji13) < (l0.length : Int)
         ·rw [if_pos c15] at H
          have c15b0 : decide ((ji13) < (l0.length : Int)) = true := decide_eq_true c15
          clear c15
          replace H := Option.bind_eq_some_iff.mp H
          obtain ⟨t282, A160, H⟩ := H
          replace H : (some t282) = some r := H
          have A16 := Aside0.mk A160
          clear A160
          obtain rfl := Option.some.inj H
          go_enter Try.func66, Try.ntmps66
          try go_wp2_with (first | ((with_reducible refine gate_callee (f := 114) rfl ?_); refine gl (some 7) Try.func114 #[.slice A0 l0.length c0] ?_; (with_reducible refine (impl_IsRing.calls k _ _ l0 true _ ?side1 ?side2 A3.out).mono ?_); (case side1 => repeat (first | exact HR0.out | (with_reducible refine Kd.C_alloc ?_ _) | (with_reducible refine Kd.C_drewN ?_ _) | (with_reducible refine Kd.C_drew ?_))); (case side2 => exact HC0.out); rintro e w17 ⟨rfl, hb⟩; refine ⟨_, rfl, ?_⟩; replace HB := Aside0.mk (below_step bz hb); (try clear hb)) | (go_at_call 112; (with_reducible refine (impl_InRange.calls a1 0 (wrap64 ((l0.length : Int) - 1)) true _ A5.out).mono ?_); rintro e w' ⟨rfl, ⟨nd, rfl⟩⟩))
          (try (rw [drewN_self w17]; generalize hq_ : World.drewN w17 _ = w17; have n0_ : Aside0 (Below w.heap.size w w17) := ⟨by rw [← hq_]; exact bz⟩; clear HB hq_; have HB := n0_; clear n0_))
          replace HB := Aside0.mk (below_drew1 HB.out)
          have p279 : 0 ≤ ((ji8) : Int) := of_decide_eq_true az
          have q279 : (ji8) < (l0.length : Int) := of_decide_eq_true az
          obtain ⟨ad279, e279, hx279_0, hx279_1⟩ := at_T82 HR0.out (ji8) p279 q279
          have hw279_1 := hx279_1
          have hw279_0 := hx279_0
          cases e279
          replace hx279_0 := xz HB hx279_0
          replace hx279_1 := xz HB hx279_1
          replace p279 := eq_true p279
          replace q279 := eq_true q279
          have p280 : 0 ≤ (a1 : Int) := of_decide_eq_true az
          have q280 : a1 < (l0.length : Int) := of_decide_eq_true az
          obtain ⟨ad280, e280, hx280_0, hx280_1⟩ := at_T82 HR0.out a1 p280 q280
          have hw280_1 := hx280_1
          have hw280_0 := hx280_0
          obtain rfl : ad279 = ad280 := (by injection e280)
          replace hx280_0 := xz HB hx280_0
          replace hx280_1 := xz HB hx280_1
          replace p280 := eq_true p280
          replace q280 := eq_true q280
          have p281 : 0 ≤ ((ji13) : Int) := of_decide_eq_true az
          have q281 : (ji13) < (l0.length : Int) := of_decide_eq_true az
          obtain ⟨ad281, e281, hx281_0, hx281_1⟩ := at_T82 HR0.out (ji13) p281 q281
          have hw281_1 := hx281_1
          have hw281_0 := hx281_0
          obtain rfl : ad279 = ad281 := (by injection e281)
          replace hx281_0 := xz HB hx281_0
          replace hx281_1 := xz HB hx281_1
          replace p281 := eq_true p281
          replace q281 := eq_true q281
          refine start_ (n := 22) (S := fun w' => w'.cell? (ad279.add (((ji8)).toNat * 2)) = some (.int .i64 ((rd_T82 l0 (ji8)).f0)) ∧ w'.cell? ⟨(ad279.add (((ji8)).toNat * 2)).block, (ad279.add (((ji8)).toNat * 2)).off + 1, none⟩ = some (.int .i64 ((rd_T82 l0 (ji8)).f1)) ∧ w'.cell? (ad279.add ((a1).toNat * 2)) = some (.int .i64 ((rd_T82 l0 a1).f0)) ∧ w'.cell? ⟨(ad279.add ((a1).toNat * 2)).block, (ad279.add ((a1).toNat * 2)).off + 1, none⟩ = some (.int .i64 ((rd_T82 l0 a1).f1)) ∧ w'.cell? (ad279.add (((ji13)).toNat * 2)) = some (.int .i64 ((rd_T82 l0 (ji13)).f0)) ∧ w'.cell? ⟨(ad279.add (((ji13)).toNat * 2)).block, (ad279.add (((ji13)).toNat * 2)).off + 1, none⟩ = some (.int .i64 ((rd_T82 l0 (ji13)).f1))) (ds := []) #[F,F,F,F,F,F,F,F,F,F,F,F,F,F,F,F,F,F,F,F,F,F] (by kernel_rfl) rfl rfl ⟨(xz HB hw279_0), (xz HB hw279_1), (xz HB hw280_0), (xz HB hw280_1), (xz HB hw281_0), (xz HB hw281_1)⟩ (fun hHeld => ?_); refine with_tabW impl_CornerSize.tab4 impl_CornerSize.bits4 (fun HT_ HW_ => ?_)
          generalize w17.drew = w18 at HB hx279_0 hx279_1 hx280_0 hx280_1 hx281_0 hx281_1 hHeld ⊢
          refine pz HT_ 0 19 ?_; refine pz HT_ 1 20 ?_; refine pz HT_ 2 21 ?_; refine pz HT_ 3 22 ?_; refine pz HT_ 4 23 ?_; refine pz HT_ 5 24 ?_; refine pz HT_ 6 25 ?_; refine pz HT_ 7 26 ?_; refine pz HT_ 9 28 ?_; refine pz HT_ 10 29 ?_; refine pz HT_ 11 30 ?_; refine pz HT_ 13 32 ?_; refine pz HT_ 14 33 ?_; refine pz HT_ 15 34 ?_; refine pz HT_ 16 35 ?_; refine pz HT_ 17 36 ?_; refine pz HT_ 18 37 ?_; refine tz6 HT_ HW_ hHeld 8 27 ?_; refine tz6 HT_ HW_ hHeld 12 31 ?_; refine tz6 HT_ HW_ hHeld 19 38 ?_
          refine oz HT_ 20 (some 39) (fun K hK => ?_)
          refine gz Try.func113 #[.agg #[.int .i64 ((rd_T82 l0 (ji8)).f0), .int .i64 ((rd_T82 l0 (ji8)).f1)], .agg #[.int .i64 ((rd_T82 l0 a1).f0), .int .i64 ((rd_T82 l0 a1).f1)], .agg #[.int .i64 ((rd_T82 l0 (ji13)).f0), .int .i64 ((rd_T82 l0 (ji13)).f1)]] ?_ (hargs := by (try simp only [List.map_toArray, List.map_cons, List.map_nil]); first | done | (simp only [hji13, hji8]; rfl) | rfl | (simp only [List.length_drop, List.length_take]; rfl))
          with_reducible refine (impl_twice.calls ((rd_T82 l0 (ji8)).f0) ((rd_T82 l0 (ji8)).f1) ((rd_T82 l0 a1).f0) ((rd_T82 l0 a1).f1) ((rd_T82 l0 (ji13)).f0) ((rd_T82 l0 (ji13)).f1) t282 _ A16.out).mono ?_
          rintro e w19 ⟨rfl, hb⟩
          refine ⟨_, rfl, ?_⟩
          replace HB := Aside0.mk (below_step bz hb)
          (try clear hb)
          (try clear hb2)
          (try clear hk)
          (try clear hi)
          refine hK.out _ _ ⟨(xz HB hw279_0), (xz HB hw279_1), (xz HB hw280_0), (xz HB hw280_1), (xz HB hw281_0), (xz HB hw281_1)⟩ (fun hHeld => ?_)
          clear hK K
          refine nz 39 ?_; refine pz HT_ 21 4 ?_; refine dz HT_ ?_
          try go_wp2
          go_ret
          exact ⟨by first | rfl | (simp [errW_none, errW_some] <;> rfl) | (simp only [← hji8, ← hji13]; first | rfl | (simp [errW_none, errW_some] <;> rfl)) | (simp [*, errW_none, errW_some] <;> rfl), bz⟩
         ·rw [if_neg c15] at H
          exact absurd H (by simp)
        ·rw [if_neg c14] at H
         exact absurd H (by simp)
       ·rw [if_neg c12] at H
        exact absurd H (by simp)
      ·rw [if_neg c11] at H
       exact absurd H (by simp)
     ·rw [if_neg c10] at H
      exact absurd H (by simp)
    ·rw [if_neg c9] at H
     exact absurd H (by simp)
  ·replace c6 := Bool.eq_false_iff.mpr c6
   subst c6
   have H1 : (some (-1)) = some r := by rw [if_neg (show ¬ (false = true) by decide)] at H; exact H
   clear H
   have H := H1
   clear H1
   obtain rfl := Option.some.inj H
   go_enter Try.func66, Try.ntmps66
   go_wp2_with (first | ((with_reducible refine gate_callee (f := 114) rfl ?_); refine gl (some 7) Try.func114 #[.slice A0 l0.length c0] ?_; (with_reducible refine (impl_IsRing.calls k _ _ l0 true _ ?side1 ?side2 A3.out).mono ?_); (case side1 => repeat (first | exact HR0.out | (with_reducible refine Kd.C_alloc ?_ _) | (with_reducible refine Kd.C_drewN ?_ _) | (with_reducible refine Kd.C_drew ?_))); (case side2 => exact HC0.out); rintro e w20 ⟨rfl, hb⟩; refine ⟨_, rfl, ?_⟩; replace HB := Aside0.mk (below_step bz hb); (try clear hb)) | (go_at_call 112; (with_reducible refine (impl_InRange.calls a1 0 (wrap64 ((l0.length : Int) - 1)) false _ A5.out).mono ?_); rintro e w' ⟨rfl, ⟨nd, rfl⟩⟩))
   go_ret
   exact ⟨ez, bz⟩
 ·replace c4 := Bool.eq_false_iff.mpr c4
  subst c4
  have H1 : (some (-1)) = some r := by rw [if_neg (show ¬ (false = true) by decide)] at H; exact H
  clear H
  have H := H1
  clear H1
  obtain rfl := Option.some.inj H
  go_enter Try.func66, Try.ntmps66
  go_wp2_with (first | ((with_reducible refine gate_callee (f := 114) rfl ?_); refine gl (some 7) Try.func114 #[.slice A0 l0.length c0] ?_; (with_reducible refine (impl_IsRing.calls k _ _ l0 false _ ?side1 ?side2 A3.out).mono ?_); (case side1 => repeat (first | exact HR0.out | (with_reducible refine Kd.C_alloc ?_ _) | (with_reducible refine Kd.C_drewN ?_ _) | (with_reducible refine Kd.C_drew ?_))); (case side2 => exact HC0.out); rintro e w21 ⟨rfl, hb⟩; refine ⟨_, rfl, ?_⟩; replace HB := Aside0.mk (below_step bz hb); (try clear hb)))
  go_ret
  exact ⟨ez, bz⟩

/-! ### impl_SizeAt: function 18 -/
def impl_SizeAt.f (k : Nat) (a0_0 : Int) (a0_1 : Int) (a0_2 : Int) (a0_3 : ByteArray) (l0_4 : List (S82)) (a1 : Int) : Option (Int) := if a0_1 = 2 then ((impl_CornerArea.f k l0_4 a1).bind fun t284 => (some t284)) else (if a0_1 = 3 then ((impl_CornerSize.f k l0_4 a1).bind fun t285 => (some t285)) else (some (-1)))
theorem impl_SizeAt.mono : ∀ a0 a1 a2 a3 a4 a5 k, LeO (impl_SizeAt.f k a0 a1 a2 a3 a4 a5) (impl_SizeAt.f (k + 1) a0 a1 a2 a3 a4 a5) := by
 intro a0 a1 a2 a3 a4 a5 k
 unfold impl_SizeAt.f
 repeat' first
   | (with_reducible exact impl_CornerArea.mono _ _ _)
   | (with_reducible exact impl_CornerSize.mono _ _ _)
   | (with_reducible exact LeO.refl _)
   | (with_reducible exact LeO.none _)
   | (with_reducible refine LeO.ite ?_ ?_)
   | (with_reducible refine LeO.bind ?_ (fun _ => ?_))
   | exact impl_CornerArea.mono _ _ _
   | exact impl_CornerSize.mono _ _ _
   | exact LeO.none _
   | refine LeO.ite ?_ ?_
   | refine LeO.bind ?_ (fun _ => ?_)
set_option maxHeartbeats 8000000 in
set_option maxRecDepth 100000 in
theorem impl_SizeAt.calls (k : Nat) (a0_0 : Int) (a0_1 : Int) (a0_2 : Int) (a0_3 : ByteArray) (A0_4 : Option Addr) (c0_4 : Nat) (l0_4 : List (S82)) (a1 : Int) (r : Int) (w : World) (hr0_4 : Kd.C k82 w A0_4 l0_4.length l0_4) (hc0_4 : l0_4.length ≤ c0_4) (h : impl_SizeAt.f k a0_0 a0_1 a0_2 a0_3 l0_4 a1 = some r) :
  Calls Try.prog 18 #[.agg #[.int .i64 a0_0, .int .i64 a0_1, .int .i64 a0_2, .string a0_3, .slice A0_4 l0_4.length c0_4], .int .i64 a1] w fun e w' => e = .returned (.int .i64 r) ∧ Below w.heap.size w w' := by
 have hu29 := Try.underlying29
 have HR0_4 := Aside0.mk hr0_4
 have HC0_4 := Aside0.mk hc0_4
 clear hr0_4 hc0_4
 have HB := Aside0.mk (Below.refl w.heap.size w)
 have H : (if a0_1 = 2 then ((impl_CornerArea.f k l0_4 a1).bind fun t284 => (some t284)) else (if a0_1 = 3 then ((impl_CornerSize.f k l0_4 a1).bind fun t285 => (some t285)) else (some (-1)))) = some r := h
 clear h
 by_cases c3 : a0_1 = 2
 ·rw [if_pos c3] at H
  have c3b0 : (a0_1 == 2) = true := beq_iff_eq.mpr c3
  have c3b1 : (a0_1 != 2) = false := bne_eq_false_iff_eq.mpr c3
  clear c3
  replace H := Option.bind_eq_some_iff.mp H
  obtain ⟨t284, A40, H⟩ := H
  replace H : (some t284) = some r := H
  have A4 := Aside0.mk A40
  clear A40
  obtain rfl := Option.some.inj H
  go_enter Try.func18, Try.ntmps18
  go_wp2_with (first | ((with_reducible refine gate_dst (N := 2) rfl ?_); refine box_event ?hg (N := 2) ?hd (cs := #[.int .i64 a0_0, .int .i64 a0_1, .int .i64 a0_2, .string a0_3, .slice A0_4 l0_4.length c0_4]) (t := 29) ?hr ?_; (case hd => rfl); (case hg => rfl); (case hr => first | (go_simp; done) | (go_simp; rfl)); intro gb283 hg w5 hbox hb; have BK283 := Aside0.mk (hbox); have GW283 := Aside0.mk ((by rw [hg]; exact (below_size bz) : w.heap.size ≤ gb283)); have GE283 := Aside0.mk ((by rw [hg]; exact (below_size bz) : w.heap.size ≤ gb283)); replace HB := Aside0.mk (below_step bz hb); clear hb hbox hg; have hcz6_0 : w5.cell? ⟨gb283, 0, none⟩ = some (.int .i64 a0_0) := (blk_cell BK283.out 0).trans rfl; have hcz6_1 : w5.cell? ⟨gb283, 1, none⟩ = some (.int .i64 a0_1) := (blk_cell BK283.out 1).trans rfl; have hcz6_2 : w5.cell? ⟨gb283, 2, none⟩ = some (.int .i64 a0_2) := (blk_cell BK283.out 2).trans rfl; have hcz6_3 : w5.cell? ⟨gb283, 3, none⟩ = some (.string a0_3) := (blk_cell BK283.out 3).trans rfl; have hcz6_4 : w5.cell? ⟨gb283, 4, none⟩ = some (.slice A0_4 l0_4.length c0_4) := (blk_cell BK283.out 4).trans rfl; have hfz6_0 := blk_frozen BK283.out 0; have hfz6_1 := blk_frozen BK283.out 1; have hfz6_2 := blk_frozen BK283.out 2; have hfz6_3 := blk_frozen BK283.out 3; have hfz6_4 := blk_frozen BK283.out 4) | ((with_reducible refine gate_callee (f := 65) rfl ?_); refine gl (some 12) Try.func65 #[.slice A0_4 l0_4.length c0_4, .int .i64 a1] ?_; (with_reducible refine (impl_CornerArea.calls k _ _ l0_4 a1 t284 _ ?side1 ?side2 A4.out).mono ?_); (case side1 => repeat (first | exact (Kd.C_below HR0_4.out HB.out) | (with_reducible refine Kd.C_alloc ?_ _) | (with_reducible refine Kd.C_drewN ?_ _) | (with_reducible refine Kd.C_drew ?_))); (case side2 => exact HC0_4.out); rintro e w7 ⟨rfl, hb⟩; refine ⟨_, rfl, ?_⟩; replace BK283 := Aside0.mk (blk_below (g := gb283) (o := .cells #[.int .i64 a0_0, .int .i64 a0_1, .int .i64 a0_2, .string a0_3, .slice A0_4 l0_4.length c0_4] 29 (0, 0)) (kz BK283) hb); replace HB := Aside0.mk (below_step bzs hb); (try clear hb)))
  go_ret
  exact ⟨ez, bzs⟩
 ·rw [if_neg c3] at H
  have c3b0 : (a0_1 == 2) = false := beq_eq_false_iff_ne.mpr c3
  have c3b1 : (a0_1 != 2) = true := bne_iff_ne.mpr c3
  by_cases c8 : a0_1 = 3
  ·rw [if_pos c8] at H
   have c8b0 : (a0_1 == 3) = true := beq_iff_eq.mpr c8
   have c8b1 : (a0_1 != 3) = false := bne_eq_false_iff_eq.mpr c8
   clear c8
   replace H := Option.bind_eq_some_iff.mp H
   obtain ⟨t285, A90, H⟩ := H
   replace H : (some t285) = some r := H
   have A9 := Aside0.mk A90
   clear A90
   obtain rfl := Option.some.inj H
   go_enter Try.func18, Try.ntmps18
   go_wp2_with (first | ((with_reducible refine gate_dst (N := 2) rfl ?_); refine box_event ?hg (N := 2) ?hd (cs := #[.int .i64 a0_0, .int .i64 a0_1, .int .i64 a0_2, .string a0_3, .slice A0_4 l0_4.length c0_4]) (t := 29) ?hr ?_; (case hd => rfl); (case hg => rfl); (case hr => first | (go_simp; done) | (go_simp; rfl)); intro gb283 hg w10 hbox hb; have BK283 := Aside0.mk (hbox); have GW283 := Aside0.mk ((by rw [hg]; exact (below_size bz) : w.heap.size ≤ gb283)); have GE283 := Aside0.mk ((by rw [hg]; exact (below_size bz) : w.heap.size ≤ gb283)); replace HB := Aside0.mk (below_step bz hb); clear hb hbox hg; have hcz11_0 : w10.cell? ⟨gb283, 0, none⟩ = some (.int .i64 a0_0) := (blk_cell BK283.out 0).trans rfl; have hcz11_1 : w10.cell? ⟨gb283, 1, none⟩ = some (.int .i64 a0_1) := (blk_cell BK283.out 1).trans rfl; have hcz11_2 : w10.cell? ⟨gb283, 2, none⟩ = some (.int .i64 a0_2) := (blk_cell BK283.out 2).trans rfl; have hcz11_3 : w10.cell? ⟨gb283, 3, none⟩ = some (.string a0_3) := (blk_cell BK283.out 3).trans rfl; have hcz11_4 : w10.cell? ⟨gb283, 4, none⟩ = some (.slice A0_4 l0_4.length c0_4) := (blk_cell BK283.out 4).trans rfl; have hfz11_0 := blk_frozen BK283.out 0; have hfz11_1 := blk_frozen BK283.out 1; have hfz11_2 := blk_frozen BK283.out 2; have hfz11_3 := blk_frozen BK283.out 3; have hfz11_4 := blk_frozen BK283.out 4) | ((with_reducible refine gate_callee (f := 66) rfl ?_); refine gl (some 18) Try.func66 #[.slice A0_4 l0_4.length c0_4, .int .i64 a1] ?_; (with_reducible refine (impl_CornerSize.calls k _ _ l0_4 a1 t285 _ ?side1 ?side2 A9.out).mono ?_); (case side1 => repeat (first | exact (Kd.C_below HR0_4.out HB.out) | (with_reducible refine Kd.C_alloc ?_ _) | (with_reducible refine Kd.C_drewN ?_ _) | (with_reducible refine Kd.C_drew ?_))); (case side2 => exact HC0_4.out); rintro e w12 ⟨rfl, hb⟩; refine ⟨_, rfl, ?_⟩; replace BK283 := Aside0.mk (blk_below (g := gb283) (o := .cells #[.int .i64 a0_0, .int .i64 a0_1, .int .i64 a0_2, .string a0_3, .slice A0_4 l0_4.length c0_4] 29 (0, 0)) (kz BK283) hb); replace HB := Aside0.mk (below_step bzs hb); (try clear hb)))
   go_ret
   exact ⟨ez, bzs⟩
  ·rw [if_neg c8] at H
   have c8b0 : (a0_1 == 3) = false := beq_eq_false_iff_ne.mpr c8
   have c8b1 : (a0_1 != 3) = true := bne_iff_ne.mpr c8
   obtain rfl := Option.some.inj H
   go_enter Try.func18, Try.ntmps18
   go_wp2_with (first | ((with_reducible refine gate_dst (N := 2) rfl ?_); refine box_event ?hg (N := 2) ?hd (cs := #[.int .i64 a0_0, .int .i64 a0_1, .int .i64 a0_2, .string a0_3, .slice A0_4 l0_4.length c0_4]) (t := 29) ?hr ?_; (case hd => rfl); (case hg => rfl); (case hr => first | (go_simp; done) | (go_simp; rfl)); intro gb283 hg w13 hbox hb; have BK283 := Aside0.mk (hbox); have GW283 := Aside0.mk ((by rw [hg]; exact (below_size bz) : w.heap.size ≤ gb283)); have GE283 := Aside0.mk ((by rw [hg]; exact (below_size bz) : w.heap.size ≤ gb283)); replace HB := Aside0.mk (below_step bz hb); clear hb hbox hg; have hcz14_0 : w13.cell? ⟨gb283, 0, none⟩ = some (.int .i64 a0_0) := (blk_cell BK283.out 0).trans rfl; have hcz14_1 : w13.cell? ⟨gb283, 1, none⟩ = some (.int .i64 a0_1) := (blk_cell BK283.out 1).trans rfl; have hcz14_2 : w13.cell? ⟨gb283, 2, none⟩ = some (.int .i64 a0_2) := (blk_cell BK283.out 2).trans rfl; have hcz14_3 : w13.cell? ⟨gb283, 3, none⟩ = some (.string a0_3) := (blk_cell BK283.out 3).trans rfl; have hcz14_4 : w13.cell? ⟨gb283, 4, none⟩ = some (.slice A0_4 l0_4.length c0_4) := (blk_cell BK283.out 4).trans rfl; have hfz14_0 := blk_frozen BK283.out 0; have hfz14_1 := blk_frozen BK283.out 1; have hfz14_2 := blk_frozen BK283.out 2; have hfz14_3 := blk_frozen BK283.out 3; have hfz14_4 := blk_frozen BK283.out 4))
   go_ret
   exact ⟨ez, bzs⟩

/-! ### laws_eqPoint: function 115 -/
def laws_eqPoint.f (a0_0 : Int) (a0_1 : Int) (a1_0 : Int) (a1_1 : Int) : Option (Bool) := if a0_0 = a1_0 then (if a0_1 = a1_1 then (some true) else (some false)) else (some false)
set_option maxHeartbeats 8000000 in
set_option maxRecDepth 100000 in
theorem laws_eqPoint.calls (a0_0 : Int) (a0_1 : Int) (a1_0 : Int) (a1_1 : Int) (r : Bool) (w : World) (h : laws_eqPoint.f a0_0 a0_1 a1_0 a1_1 = some r) :
  Calls Try.prog 115 #[.agg #[.int .i64 a0_0, .int .i64 a0_1], .agg #[.int .i64 a1_0, .int .i64 a1_1]] w fun e w' => e = .returned (.bool r) ∧ Below w.heap.size w w' := by
 have hu82 := Try.underlying82
 have HB := Aside0.mk (Below.refl w.heap.size w)
 have H : (if a0_0 = a1_0 then (if a0_1 = a1_1 then (some true) else (some false)) else (some false)) = some r := h
 clear h
 by_cases c3 : a0_0 = a1_0
 ·rw [if_pos c3] at H
  have c3b0 : (a0_0 == a1_0) = true := beq_iff_eq.mpr c3
  have c3b1 : (a0_0 != a1_0) = false := bne_eq_false_iff_eq.mpr c3
  clear c3
  by_cases c4 : a0_1 = a1_1
  ·rw [if_pos c4] at H
   have c4b0 : (a0_1 == a1_1) = true := beq_iff_eq.mpr c4
   have c4b1 : (a0_1 != a1_1) = false := bne_eq_false_iff_eq.mpr c4
   clear c4
   obtain rfl := Option.some.inj H
   go_enter Try.func115, Try.ntmps115
   go_wp2_with (first | ((with_reducible refine gate_dst (N := 2) rfl ?_); refine box_event ?hg (N := 2) ?hd (cs := #[.int .i64 a0_0, .int .i64 a0_1]) (t := 82) ?hr ?_; (case hd => rfl); (case hg => rfl); (case hr => first | (go_simp; done) | (go_simp; rfl)); intro gb286 hg w5 hbox hb; have BK286 := Aside0.mk (hbox); have GW286 := Aside0.mk ((by rw [hg]; exact (below_size bz) : w.heap.size ≤ gb286)); have GE286 := Aside0.mk ((by rw [hg]; exact (below_size bz) : w.heap.size ≤ gb286)); replace HB := Aside0.mk (below_step bz hb); clear hb hbox hg) | ((with_reducible refine gate_dst (N := 3) rfl ?_); refine box_event ?hg (N := 3) ?hd (cs := #[.int .i64 a1_0, .int .i64 a1_1]) (t := 82) ?hr ?_; (case hd => rfl); (case hg => rfl); (case hr => first | (go_simp; done) | (go_simp; rfl)); intro gb287 hg w6 hbox hb; have BK287 := Aside0.mk (hbox); have GW287 := Aside0.mk ((by rw [hg]; exact (below_size bzs) : w.heap.size ≤ gb287)); have GE287 := Aside0.mk ((by rw [hg]; exact (below_size bzs) : w.heap.size ≤ gb287)); replace HB := Aside0.mk (below_step bzs hb); have NB286_287 := Aside0.mk ((by rw [hg]; exact Nat.ne_of_lt (blk_lt (g := gb286) (o := .cells #[.int .i64 a0_0, .int .i64 a0_1] 82 (0, 0)) (kz BK286)) : gb286 ≠ gb287)); have NB287_286 := Aside0.mk ((by rw [hg]; exact Nat.ne_of_gt (blk_lt (g := gb286) (o := .cells #[.int .i64 a0_0, .int .i64 a0_1] 82 (0, 0)) (kz BK286)) : gb287 ≠ gb286)); replace BK286 := Aside0.mk (blk_below (g := gb286) (o := .cells #[.int .i64 a0_0, .int .i64 a0_1] 82 (0, 0)) (kz BK286) hb); clear hb hbox hg; have hnb7 := NB286_287.out; have hnc7 := NB287_286.out; have hcz8_0 : w6.cell? ⟨gb286, 0, none⟩ = some (.int .i64 a0_0) := (blk_cell BK286.out 0).trans rfl; have hcz8_1 : w6.cell? ⟨gb286, 1, none⟩ = some (.int .i64 a0_1) := (blk_cell BK286.out 1).trans rfl; have hfz8_0 := blk_frozen BK286.out 0; have hfz8_1 := blk_frozen BK286.out 1; have hcz9_0 : w6.cell? ⟨gb287, 0, none⟩ = some (.int .i64 a1_0) := (blk_cell BK287.out 0).trans rfl; have hcz9_1 : w6.cell? ⟨gb287, 1, none⟩ = some (.int .i64 a1_1) := (blk_cell BK287.out 1).trans rfl; have hfz9_0 := blk_frozen BK287.out 0; have hfz9_1 := blk_frozen BK287.out 1))
   go_ret
   exact ⟨ez, bzs⟩
  ·rw [if_neg c4] at H
   have c4b0 : (a0_1 == a1_1) = false := beq_eq_false_iff_ne.mpr c4
   have c4b1 : (a0_1 != a1_1) = true := bne_iff_ne.mpr c4
   obtain rfl := Option.some.inj H
   go_enter Try.func115, Try.ntmps115
   go_wp2_with (first | ((with_reducible refine gate_dst (N := 2) rfl ?_); refine box_event ?hg (N := 2) ?hd (cs := #[.int .i64 a0_0, .int .i64 a0_1]) (t := 82) ?hr ?_; (case hd => rfl); (case hg => rfl); (case hr => first | (go_simp; done) | (go_simp; rfl)); intro gb286 hg w10 hbox hb; have BK286 := Aside0.mk (hbox); have GW286 := Aside0.mk ((by rw [hg]; exact (below_size bz) : w.heap.size ≤ gb286)); have GE286 := Aside0.mk ((by rw [hg]; exact (below_size bz) : w.heap.size ≤ gb286)); replace HB := Aside0.mk (below_step bz hb); clear hb hbox hg) | ((with_reducible refine gate_dst (N := 3) rfl ?_); refine box_event ?hg (N := 3) ?hd (cs := #[.int .i64 a1_0, .int .i64 a1_1]) (t := 82) ?hr ?_; (case hd => rfl); (case hg => rfl); (case hr => first | (go_simp; done) | (go_simp; rfl)); intro gb287 hg w11 hbox hb; have BK287 := Aside0.mk (hbox); have GW287 := Aside0.mk ((by rw [hg]; exact (below_size bzs) : w.heap.size ≤ gb287)); have GE287 := Aside0.mk ((by rw [hg]; exact (below_size bzs) : w.heap.size ≤ gb287)); replace HB := Aside0.mk (below_step bzs hb); have NB286_287 := Aside0.mk ((by rw [hg]; exact Nat.ne_of_lt (blk_lt (g := gb286) (o := .cells #[.int .i64 a0_0, .int .i64 a0_1] 82 (0, 0)) (kz BK286)) : gb286 ≠ gb287)); have NB287_286 := Aside0.mk ((by rw [hg]; exact Nat.ne_of_gt (blk_lt (g := gb286) (o := .cells #[.int .i64 a0_0, .int .i64 a0_1] 82 (0, 0)) (kz BK286)) : gb287 ≠ gb286)); replace BK286 := Aside0.mk (blk_below (g := gb286) (o := .cells #[.int .i64 a0_0, .int .i64 a0_1] 82 (0, 0)) (kz BK286) hb); clear hb hbox hg; have hnb12 := NB286_287.out; have hnc12 := NB287_286.out; have hcz13_0 : w11.cell? ⟨gb286, 0, none⟩ = some (.int .i64 a0_0) := (blk_cell BK286.out 0).trans rfl; have hcz13_1 : w11.cell? ⟨gb286, 1, none⟩ = some (.int .i64 a0_1) := (blk_cell BK286.out 1).trans rfl; have hfz13_0 := blk_frozen BK286.out 0; have hfz13_1 := blk_frozen BK286.out 1; have hcz14_0 : w11.cell? ⟨gb287, 0, none⟩ = some (.int .i64 a1_0) := (blk_cell BK287.out 0).trans rfl; have hcz14_1 : w11.cell? ⟨gb287, 1, none⟩ = some (.int .i64 a1_1) := (blk_cell BK287.out 1).trans rfl; have hfz14_0 := blk_frozen BK287.out 0; have hfz14_1 := blk_frozen BK287.out 1))
   go_ret
   exact ⟨ez, bzs⟩
 ·rw [if_neg c3] at H
  have c3b0 : (a0_0 == a1_0) = false := beq_eq_false_iff_ne.mpr c3
  have c3b1 : (a0_0 != a1_0) = true := bne_iff_ne.mpr c3
  obtain rfl := Option.some.inj H
  go_enter Try.func115, Try.ntmps115
  go_wp2_with (first | ((with_reducible refine gate_dst (N := 2) rfl ?_); refine box_event ?hg (N := 2) ?hd (cs := #[.int .i64 a0_0, .int .i64 a0_1]) (t := 82) ?hr ?_; (case hd => rfl); (case hg => rfl); (case hr => first | (go_simp; done) | (go_simp; rfl)); intro gb286 hg w15 hbox hb; have BK286 := Aside0.mk (hbox); have GW286 := Aside0.mk ((by rw [hg]; exact (below_size bz) : w.heap.size ≤ gb286)); have GE286 := Aside0.mk ((by rw [hg]; exact (below_size bz) : w.heap.size ≤ gb286)); replace HB := Aside0.mk (below_step bz hb); clear hb hbox hg) | ((with_reducible refine gate_dst (N := 3) rfl ?_); refine box_event ?hg (N := 3) ?hd (cs := #[.int .i64 a1_0, .int .i64 a1_1]) (t := 82) ?hr ?_; (case hd => rfl); (case hg => rfl); (case hr => first | (go_simp; done) | (go_simp; rfl)); intro gb287 hg w16 hbox hb; have BK287 := Aside0.mk (hbox); have GW287 := Aside0.mk ((by rw [hg]; exact (below_size bzs) : w.heap.size ≤ gb287)); have GE287 := Aside0.mk ((by rw [hg]; exact (below_size bzs) : w.heap.size ≤ gb287)); replace HB := Aside0.mk (below_step bzs hb); have NB286_287 := Aside0.mk ((by rw [hg]; exact Nat.ne_of_lt (blk_lt (g := gb286) (o := .cells #[.int .i64 a0_0, .int .i64 a0_1] 82 (0, 0)) (kz BK286)) : gb286 ≠ gb287)); have NB287_286 := Aside0.mk ((by rw [hg]; exact Nat.ne_of_gt (blk_lt (g := gb286) (o := .cells #[.int .i64 a0_0, .int .i64 a0_1] 82 (0, 0)) (kz BK286)) : gb287 ≠ gb286)); replace BK286 := Aside0.mk (blk_below (g := gb286) (o := .cells #[.int .i64 a0_0, .int .i64 a0_1] 82 (0, 0)) (kz BK286) hb); clear hb hbox hg; have hnb17 := NB286_287.out; have hnc17 := NB287_286.out; have hcz18_0 : w16.cell? ⟨gb286, 0, none⟩ = some (.int .i64 a0_0) := (blk_cell BK286.out 0).trans rfl; have hcz18_1 : w16.cell? ⟨gb286, 1, none⟩ = some (.int .i64 a0_1) := (blk_cell BK286.out 1).trans rfl; have hfz18_0 := blk_frozen BK286.out 0; have hfz18_1 := blk_frozen BK286.out 1; have hcz19_0 : w16.cell? ⟨gb287, 0, none⟩ = some (.int .i64 a1_0) := (blk_cell BK287.out 0).trans rfl; have hcz19_1 : w16.cell? ⟨gb287, 1, none⟩ = some (.int .i64 a1_1) := (blk_cell BK287.out 1).trans rfl; have hfz19_0 := blk_frozen BK287.out 0; have hfz19_1 := blk_frozen BK287.out 1))
  go_ret
  exact ⟨ez, bzs⟩

/-! ### laws_eqPointS: function 67 -/
def laws_eqPointS.l0 : Nat → List (S82) → List (S82) → Int → Option (Bool)
 | 0, _, _, _ => none
 | k + 1, x0, x1, x5 => if x5 < (x0.length : Int) then (if 0 ≤ x5 then (if x5 < (x1.length : Int) then ((laws_eqPoint.f ((rd_T82 x0 x5).f0) ((rd_T82 x0 x5).f1) ((rd_T82 x1 x5).f0) ((rd_T82 x1 x5).f1)).bind fun t290 => (if t290 = true then (laws_eqPointS.l0 k x0 x1 (wrap64 (x5 + 1))) else (some false))) else (none)) else (none)) else (some true)
def laws_eqPointS.f (k : Nat) (l0 : List (S82)) (l1 : List (S82)) : Option (Bool) := if (l0.length : Int) = (l1.length : Int) then (laws_eqPointS.l0 k l0 l1 0) else (some false)
theorem laws_eqPointS.mono_l : ∀ k, (∀ y0 y1 y2, LeO (laws_eqPointS.l0 k y0 y1 y2) (laws_eqPointS.l0 (k + 1) y0 y1 y2))
 | 0 => fun _ _ _ r h => by simp [laws_eqPointS.l0] at h
 | k + 1 => by
  have ih0 := laws_eqPointS.mono_l k
  ·intro y0 y1 y2
   unfold laws_eqPointS.l0
   repeat' first
   | (with_reducible exact ih0 _ _ _)
   | (with_reducible exact LeO.refl _)
   | (with_reducible exact LeO.none _)
   | (with_reducible refine LeO.ite ?_ ?_)
   | (with_reducible refine LeO.bind ?_ (fun _ => ?_))
   | exact ih0 _ _ _
   | exact LeO.none _
   | refine LeO.ite ?_ ?_
   | refine LeO.bind ?_ (fun _ => ?_)
theorem laws_eqPointS.mono : ∀ a0 a1 k, LeO (laws_eqPointS.f k a0 a1) (laws_eqPointS.f (k + 1) a0 a1) := by
 intro a0 a1 k
 have ih0 := laws_eqPointS.mono_l k
 unfold laws_eqPointS.f
 repeat' first
   | (with_reducible exact ih0 _ _ _)
   | (with_reducible exact LeO.refl _)
   | (with_reducible exact LeO.none _)
   | (with_reducible refine LeO.ite ?_ ?_)
   | (with_reducible refine LeO.bind ?_ (fun _ => ?_))
   | exact ih0 _ _ _
   | exact LeO.none _
   | refine LeO.ite ?_ ?_
   | refine LeO.bind ?_ (fun _ => ?_)
def laws_eqPointS.T6 : Bool × List (List Nat × List Nat) := (true, [([], []), ([], []), ([0, 1], [0, 1]), ([2], [2]), ([], []), ([], []), ([4, 5], [4, 5]), ([6], [6]), ([3, 7], [3, 7]), ([8], [8])])
def laws_eqPointS.B6 : List Nat := [0, 0, 3, 7, 0, 0, 48, 112, 255, 511]
theorem laws_eqPointS.tab6 : rtab .any (opsOf Try.f67 6) = laws_eqPointS.T6 := by kernel_rfl
theorem laws_eqPointS.bits6 : waitsOk laws_eqPointS.T6.2 laws_eqPointS.B6 = true := by kernel_rfl
set_option maxHeartbeats 8000000 in
set_option maxRecDepth 100000 in
theorem laws_eqPointS.calls (k : Nat) (A0 : Option Addr) (c0 : Nat) (l0 : List (S82)) (A1 : Option Addr) (c1 : Nat) (l1 : List (S82)) (r : Bool) (w : World) (hr0 : Kd.C k82 w A0 l0.length l0) (hc0 : l0.length ≤ c0) (hr1 : Kd.C k82 w A1 l1.length l1) (hc1 : l1.length ≤ c1) (h : laws_eqPointS.f k l0 l1 = some r) :
  Calls Try.prog 67 #[.slice A0 l0.length c0, .slice A1 l1.length c1] w fun e w' => e = .returned (.bool r) ∧ Below w.heap.size w w' := by
 have hu82 := Try.underlying82
 have HR0 := Aside0.mk hr0
 have HC0 := Aside0.mk hc0
 clear hr0 hc0
 have HR1 := Aside0.mk hr1
 have HC1 := Aside0.mk hc1
 clear hr1 hc1
 have HB := Aside0.mk (Below.refl w.heap.size w)
 have H : (if (l0.length : Int) = (l1.length : Int) then (laws_eqPointS.l0 k l0 l1 0) else (some false)) = some r := h
 clear h
 by_cases c3 : (l0.length : Int) = (l1.length : Int)
 ·rw [if_pos c3] at H
  have c3b0 : ((l0.length : Int) == (l1.length : Int)) = true := beq_iff_eq.mpr c3
  have c3b1 : ((l0.length : Int) != (l1.length : Int)) = false := bne_eq_false_iff_eq.mpr c3
  have c3b2 : (l0.length == l1.length) = true := by first | simpa using c3 | (simp at c3 ⊢; omega)
  clear c3
  have H' := Aside0.mk H
  clear H
  go_enter Try.func67, Try.ntmps67
  go_wp2
  go_loopg [5] k (fun kq v5 w' => ∃ (x5_1 : Int), v5 = .int .i64 x5_1 ∧ Aside0 (laws_eqPointS.l0 kq l0 l1 x5_1 = some r) ∧ Aside0 (kq ≤ k) ∧ Aside0 (Below w.heap.size w w'))
  case atStart => exact ⟨(0), rz, H', ⟨Nat.le_refl _⟩, ⟨bz⟩⟩
  case round =>
   clear H'
   try clear c1
   try clear p2
   try clear c3
   try clear c3b0
   try clear c3b1
   try clear c3b2
   obtain ⟨x5_1, rfl, HA, HK1, HB⟩ := hrel
   cases gk with
   | zero => exact absurd HA.out (by simp [laws_eqPointS.l0])
   | succ k1 =>
    have H := HA.out
    clear HA
    simp only [laws_eqPointS.l0] at H
    by_cases c4 : x5_1 < (l0.length : Int)
    ·rw [if_pos c4] at H
     have c4b0 : decide (x5_1 < (l0.length : Int)) = true := decide_eq_true c4
     clear c4
     by_cases c5 : 0 ≤ x5_1
     ·rw [if_pos c5] at H
      have c5b0 : decide (0 ≤ x5_1) = true := decide_eq_true c5
      clear c5
      by_cases c6 : x5_1 < (l1.length : Int)
      ·rw [if_pos c6] at H
       have c6b0 : decide (x5_1 < (l1.length : Int)) = true := decide_eq_true c6
       clear c6
       replace H := Option.bind_eq_some_iff.mp H
       obtain ⟨t290, A70, H⟩ := H
       replace H : (if t290 = true then (laws_eqPointS.l0 k1 l0 l1 (wrap64 (x5_1 + 1))) else (some false)) = some r := H
       have A7 := Aside0.mk A70
       clear A70
       by_cases c8 : t290 = true
       ·subst c8
        have H1 : (laws_eqPointS.l0 k1 l0 l1 (wrap64 (x5_1 + 1))) = some r := by rw [if_pos rfl] at H; exact H
        clear H
        have H := H1
        clear H1
        have H' := Aside0.mk H
        clear H
        try go_wp2
        replace HB := Aside0.mk (below_drew1 HB.out)
        have p288 : 0 ≤ (x5_1 : Int) := of_decide_eq_true az
        have q288 : x5_1 < (l0.length : Int) := of_decide_eq_true az
        obtain ⟨ad288, e288, hx288_0, hx288_1⟩ := at_T82 HR0.out x5_1 p288 q288
        have hw288_1 := hx288_1
        have hw288_0 := hx288_0
        cases e288
        replace hx288_0 := xz HB hx288_0
        replace hx288_1 := xz HB hx288_1
        replace p288 := eq_true p288
        replace q288 := eq_true q288
        have p289 : 0 ≤ (x5_1 : Int) := of_decide_eq_true az
        have q289 : x5_1 < (l1.length : Int) := of_decide_eq_true az
        obtain ⟨ad289, e289, hx289_0, hx289_1⟩ := at_T82 HR1.out x5_1 p289 q289
        have hw289_1 := hx289_1
        have hw289_0 := hx289_0
        cases e289
        replace hx289_0 := xz HB hx289_0
        replace hx289_1 := xz HB hx289_1
        replace p289 := eq_true p289
        replace q289 := eq_true q289
        refine start_ (n := 10) (S := fun w' => w'.cell? (ad288.add ((x5_1).toNat * 2)) = some (.int .i64 ((rd_T82 l0 x5_1).f0)) ∧ w'.cell? ⟨(ad288.add ((x5_1).toNat * 2)).block, (ad288.add ((x5_1).toNat * 2)).off + 1, none⟩ = some (.int .i64 ((rd_T82 l0 x5_1).f1)) ∧ w'.cell? (ad289.add ((x5_1).toNat * 2)) = some (.int .i64 ((rd_T82 l1 x5_1).f0)) ∧ w'.cell? ⟨(ad289.add ((x5_1).toNat * 2)).block, (ad289.add ((x5_1).toNat * 2)).off + 1, none⟩ = some (.int .i64 ((rd_T82 l1 x5_1).f1))) (ds := []) #[F,F,F,F,F,F,F,F,F,F] (by kernel_rfl) rfl rfl ⟨(xz HB hw288_0), (xz HB hw288_1), (xz HB hw289_0), (xz HB hw289_1)⟩ (fun hHeld => ?_); refine with_tabW laws_eqPointS.tab6 laws_eqPointS.bits6 (fun HT_ HW_ => ?_)
        generalize wr.drew = w9 at HB hx288_0 hx288_1 hx289_0 hx289_1 hHeld ⊢
        refine pz HT_ 0 17 ?_; refine pz HT_ 1 18 ?_; refine pz HT_ 2 19 ?_; refine pz HT_ 4 21 ?_; refine pz HT_ 5 22 ?_; refine pz HT_ 6 23 ?_; refine tz4 HT_ HW_ hHeld 3 20 ?_; refine tz4 HT_ HW_ hHeld 7 24 ?_
        refine oz HT_ 8 (some 25) (fun K hK => ?_)
        refine gz Try.func115 #[.agg #[.int .i64 ((rd_T82 l0 x5_1).f0), .int .i64 ((rd_T82 l0 x5_1).f1)], .agg #[.int .i64 ((rd_T82 l1 x5_1).f0), .int .i64 ((rd_T82 l1 x5_1).f1)]] ?_
        with_reducible refine (laws_eqPoint.calls ((rd_T82 l0 x5_1).f0) ((rd_T82 l0 x5_1).f1) ((rd_T82 l1 x5_1).f0) ((rd_T82 l1 x5_1).f1) true _ A7.out).mono ?_
        rintro e w10 ⟨rfl, hb⟩
        refine ⟨_, rfl, ?_⟩
        replace HB := Aside0.mk (below_step bz hb)
        (try clear hb)
        (try clear hb2)
        (try clear hk)
        (try clear hi)
        refine hK.out _ _ ⟨(xz HB hw288_0), (xz HB hw288_1), (xz HB hw289_0), (xz HB hw289_1)⟩ (fun hHeld => ?_)
        clear hK K
        refine nz 25 ?_; refine pz HT_ 9 26 ?_; refine dz HT_ ?_
        try go_wp2
        go_roundg k1
        case measure => have := HK1.out; omega
        case rel => exact ⟨(wrap64 (x5_1 + 1)), rz, H', ⟨by have := HK1.out; omega⟩, ⟨bz⟩⟩
       ·replace c8 := Bool.eq_false_iff.mpr c8
        subst c8
        have H1 : (some false) = some r := by rw [if_neg (show ¬ (false = true) by decide)] at H; exact H
        clear H
        have H := H1
        clear H1
        obtain rfl := Option.some.inj H
        try go_wp2
        replace HB := Aside0.mk (below_drew1 HB.out)
        have p288 : 0 ≤ (x5_1 : Int) := of_decide_eq_true az
        have q288 : x5_1 < (l0.length : Int) := of_decide_eq_true az
        obtain ⟨ad288, e288, hx288_0, hx288_1⟩ := at_T82 HR0.out x5_1 p288 q288
        have hw288_1 := hx288_1
        have hw288_0 := hx288_0
        cases e288
        replace hx288_0 := xz HB hx288_0
        replace hx288_1 := xz HB hx288_1
        replace p288 := eq_true p288
        replace q288 := eq_true q288
        have p289 : 0 ≤ (x5_1 : Int) := of_decide_eq_true az
        have q289 : x5_1 < (l1.length : Int) := of_decide_eq_true az
        obtain ⟨ad289, e289, hx289_0, hx289_1⟩ := at_T82 HR1.out x5_1 p289 q289
        have hw289_1 := hx289_1
        have hw289_0 := hx289_0
        cases e289
        replace hx289_0 := xz HB hx289_0
        replace hx289_1 := xz HB hx289_1
        replace p289 := eq_true p289
        replace q289 := eq_true q289
        refine start_ (n := 10) (S := fun w' => w'.cell? (ad288.add ((x5_1).toNat * 2)) = some (.int .i64 ((rd_T82 l0 x5_1).f0)) ∧ w'.cell? ⟨(ad288.add ((x5_1).toNat * 2)).block, (ad288.add ((x5_1).toNat * 2)).off + 1, none⟩ = some (.int .i64 ((rd_T82 l0 x5_1).f1)) ∧ w'.cell? (ad289.add ((x5_1).toNat * 2)) = some (.int .i64 ((rd_T82 l1 x5_1).f0)) ∧ w'.cell? ⟨(ad289.add ((x5_1).toNat * 2)).block, (ad289.add ((x5_1).toNat * 2)).off + 1, none⟩ = some (.int .i64 ((rd_T82 l1 x5_1).f1))) (ds := []) #[F,F,F,F,F,F,F,F,F,F] (by kernel_rfl) rfl rfl ⟨(xz HB hw288_0), (xz HB hw288_1), (xz HB hw289_0), (xz HB hw289_1)⟩ (fun hHeld => ?_); refine with_tabW laws_eqPointS.tab6 laws_eqPointS.bits6 (fun HT_ HW_ => ?_)
        generalize wr.drew = w11 at HB hx288_0 hx288_1 hx289_0 hx289_1 hHeld ⊢
        refine pz HT_ 0 17 ?_; refine pz HT_ 1 18 ?_; refine pz HT_ 2 19 ?_; refine pz HT_ 4 21 ?_; refine pz HT_ 5 22 ?_; refine pz HT_ 6 23 ?_; refine tz4 HT_ HW_ hHeld 3 20 ?_; refine tz4 HT_ HW_ hHeld 7 24 ?_
        refine oz HT_ 8 (some 25) (fun K hK => ?_)
        refine gz Try.func115 #[.agg #[.int .i64 ((rd_T82 l0 x5_1).f0), .int .i64 ((rd_T82 l0 x5_1).f1)], .agg #[.int .i64 ((rd_T82 l1 x5_1).f0), .int .i64 ((rd_T82 l1 x5_1).f1)]] ?_
        with_reducible refine (laws_eqPoint.calls ((rd_T82 l0 x5_1).f0) ((rd_T82 l0 x5_1).f1) ((rd_T82 l1 x5_1).f0) ((rd_T82 l1 x5_1).f1) false _ A7.out).mono ?_
        rintro e w12 ⟨rfl, hb⟩
        refine ⟨_, rfl, ?_⟩
        replace HB := Aside0.mk (below_step bz hb)
        (try clear hb)
        (try clear hb2)
        (try clear hk)
        (try clear hi)
        refine hK.out _ _ ⟨(xz HB hw288_0), (xz HB hw288_1), (xz HB hw289_0), (xz HB hw289_1)⟩ (fun hHeld => ?_)
        clear hK K
        refine nz 25 ?_; refine pz HT_ 9 26 ?_; refine dz HT_ ?_
        try go_wp2
        go_ret
        exact ⟨ez, bz⟩
      ·rw [if_neg c6] at H
       exact absurd H (by simp)
     ·rw [if_neg c5] at H
      exact absurd H (by simp)
    ·rw [if_neg c4] at H
     have c4b0 : decide (x5_1 < (l0.length : Int)) = false := decide_eq_false c4
     clear c4
     obtain rfl := Option.some.inj H
     go_wp2
     go_ret
     exact ⟨ez, bz⟩
 ·rw [if_neg c3] at H
  have c3b0 : ((l0.length : Int) == (l1.length : Int)) = false := beq_eq_false_iff_ne.mpr c3
  have c3b1 : ((l0.length : Int) != (l1.length : Int)) = true := bne_iff_ne.mpr c3
  have c3b2 : (l0.length == l1.length) = false := by first | simpa using c3 | (simp at c3 ⊢; omega)
  obtain rfl := Option.some.inj H
  go_enter Try.func67, Try.ntmps67
  go_wp2
  go_ret
  exact ⟨ez, bz⟩

end Go.Proofs.Ytdfehjfmihokpaa.PFnExactSizeAt
