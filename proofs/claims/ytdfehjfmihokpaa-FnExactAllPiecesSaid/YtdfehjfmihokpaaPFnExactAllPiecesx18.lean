-- Written by a program of this session's: the kit's print, turned (turnprint.py): functions, and that Go comes to just their answers.
import Derived.Test.YtdfehjfmihokpaaZ
import Derived.Test.YtdfehjfmihokpaaPFnExactAllPiecesx0
import Derived.Test.YtdfehjfmihokpaaPFnExactAllPiecesx15
import Derived.Test.YtdfehjfmihokpaaPFnExactAllPiecesx17
namespace Go.Proofs.Ytdfehjfmihokpaa.PFnExactAllPieces
open Go.RowKit Go.Proofs.YtdfehjfmihokpaaW.PrintWords Go.Proofs.YtdfehjfmihokpaaW.PrintLast Go.Proofs.YtdfehjfmihokpaaW.PrintMore Go.Proofs.YtdfehjfmihokpaaGeo Go.Proofs.YtdfehjfmihokpaaHand Go.Proofs.YtdfehjfmihokpaaMeet Go.Proofs.YtdfehjfmihokpaaQuiet Go.Proofs.YtdfehjfmihokpaaZ
attribute [local go_sem] max2_int min2_int max_two min_two max_three min_three max_four min_four   -- for this text's walks alone
set_option linter.unusedVariables false
set_option linter.unusedSimpArgs false

/-! ### impl_IsRing: function 114 -/
mutual
def impl_IsRing.j0 : Nat → List (S82) → Bool → Option (Bool)
 | 0, _, _ => none
 | k + 1, x0, x14 => if x14 = true then (some false) else ((impl_around.f k x0).bind fun t301 => (impl_IsRing.l0 k t301 (t301.length : Int) 0))
def impl_IsRing.l0 : Nat → List (S85) → Int → Int → Option (Bool)
 | 0, _, _, _ => none
 | k + 1, x3, x18, x19 => if x19 < x18 then (if 0 ≤ x19 then (if x19 < (x3.length : Int) then ((impl_IsSegment.f ((rd_T85 x3 x19).f0.f0) ((rd_T85 x3 x19).f0.f1) ((rd_T85 x3 x19).f1.f0) ((rd_T85 x3 x19).f1.f1)).bind fun t305 => (if t305 = true then (impl_IsRing.l1 k x3 x19 x18 x19 x19 0) else (some false))) else (none)) else (none)) else (some true)
def impl_IsRing.l1 : Nat → List (S85) → Int → Int → Int → Int → Int → Option (Bool)
 | 0, _, _, _, _, _, _ => none
 | k + 1, x3, x4, x18, x19, x28, x29 => if x29 < x28 then (if x29 = (wrap64 (x4 - 1)) then (impl_IsRing.j3 k x3 x4 x29 0 x18 x19 x28 x29 true) else (if x29 = 0 then (impl_IsRing.j3 k x3 x4 x29 0 x18 x19 x28 x29 (x4 == (wrap64 ((x3.length : Int) - 1)))) else (impl_IsRing.j3 k x3 x4 x29 0 x18 x19 x28 x29 false))) else (impl_IsRing.l0 k x3 x18 (wrap64 (x19 + 1)))
def impl_IsRing.j3 : Nat → List (S85) → Int → Int → Int → Int → Int → Int → Int → Bool → Option (Bool)
 | 0, _, _, _, _, _, _, _, _, _ => none
 | k + 1, x3, x4, x5, x6, x18, x19, x28, x29, x46 => if x46 = true then (if 0 ≤ x4 then (if x4 < (x3.length : Int) then (if 0 ≤ x5 then (if x5 < (x3.length : Int) then ((impl_HowMeet.f k ((rd_T85 x3 x4).f0.f0) ((rd_T85 x3 x4).f0.f1) ((rd_T85 x3 x4).f1.f0) ((rd_T85 x3 x4).f1.f1) ((rd_T85 x3 x5).f0.f0) ((rd_T85 x3 x5).f0.f1) ((rd_T85 x3 x5).f1.f0) ((rd_T85 x3 x5).f1.f1)).bind fun t308 => (if t308 = 1 then (impl_IsRing.l1 k x3 x4 x18 x19 x28 (wrap64 (x29 + 1))) else (some false))) else (none)) else (none)) else (none)) else (none)) else (if 0 ≤ x4 then (if x4 < (x3.length : Int) then (if 0 ≤ x5 then (if x5 < (x3.length : Int) then ((impl_HowMeet.f k ((rd_T85 x3 x4).f0.f0) ((rd_T85 x3 x4).f0.f1) ((rd_T85 x3 x4).f1.f0) ((rd_T85 x3 x4).f1.f1) ((rd_T85 x3 x5).f0.f0) ((rd_T85 x3 x5).f0.f1) ((rd_T85 x3 x5).f1.f0) ((rd_T85 x3 x5).f1.f1)).bind fun t311 => (if t311 = x6 then (impl_IsRing.l1 k x3 x4 x18 x19 x28 (wrap64 (x29 + 1))) else (some false))) else (none)) else (none)) else (none)) else (none))
end
def impl_IsRing.f (k : Nat) (l0 : List (S82)) : Option (Bool) := if (l0.length : Int) < 3 then (impl_IsRing.j0 k l0 true) else (impl_IsRing.j0 k l0 (decide ((l0.length : Int) > 10)))
theorem impl_IsRing.mono_l : ∀ k, (∀ y0 y1, LeO (impl_IsRing.j0 k y0 y1) (impl_IsRing.j0 (k + 1) y0 y1)) ∧ (∀ y0 y1 y2, LeO (impl_IsRing.l0 k y0 y1 y2) (impl_IsRing.l0 (k + 1) y0 y1 y2)) ∧ (∀ y0 y1 y2 y3 y4 y5, LeO (impl_IsRing.l1 k y0 y1 y2 y3 y4 y5) (impl_IsRing.l1 (k + 1) y0 y1 y2 y3 y4 y5)) ∧ (∀ y0 y1 y2 y3 y4 y5 y6 y7 y8, LeO (impl_IsRing.j3 k y0 y1 y2 y3 y4 y5 y6 y7 y8) (impl_IsRing.j3 (k + 1) y0 y1 y2 y3 y4 y5 y6 y7 y8))
 | 0 => ⟨fun _ _ r h => by simp [impl_IsRing.j0] at h, fun _ _ _ r h => by simp [impl_IsRing.l0] at h, fun _ _ _ _ _ _ r h => by simp [impl_IsRing.l1] at h, fun _ _ _ _ _ _ _ _ _ r h => by simp [impl_IsRing.j3] at h⟩
 | k + 1 => by
  obtain ⟨ih0, ih1, ih2, ih3⟩ := impl_IsRing.mono_l k; refine ⟨?_, ?_, ?_, ?_⟩
  ·intro y0 y1
   unfold impl_IsRing.j0
   repeat' first | (with_reducible first | exact ih0 _ _ | exact ih1 _ _ _ | exact ih2 _ _ _ _ _ _ | exact ih3 _ _ _ _ _ _ _ _ _ | exact impl_HowMeet.mono _ _ _ _ _ _ _ _ _ | exact impl_around.mono _ _ | exact LeO.refl _ | exact LeO.none _ | refine LeO.ite ?_ ?_ | refine LeO.bind ?_ (fun _ => ?_)) | exact ih0 _ _ | exact ih1 _ _ _ | exact ih2 _ _ _ _ _ _ | exact ih3 _ _ _ _ _ _ _ _ _ | exact impl_HowMeet.mono _ _ _ _ _ _ _ _ _ | exact impl_around.mono _ _ | exact LeO.none _ | refine LeO.ite ?_ ?_ | refine LeO.bind ?_ (fun _ => ?_)
  ·intro y0 y1 y2
   unfold impl_IsRing.l0
   repeat' first | (with_reducible first | exact ih0 _ _ | exact ih1 _ _ _ | exact ih2 _ _ _ _ _ _ | exact ih3 _ _ _ _ _ _ _ _ _ | exact impl_HowMeet.mono _ _ _ _ _ _ _ _ _ | exact impl_around.mono _ _ | exact LeO.refl _ | exact LeO.none _ | refine LeO.ite ?_ ?_ | refine LeO.bind ?_ (fun _ => ?_)) | exact ih0 _ _ | exact ih1 _ _ _ | exact ih2 _ _ _ _ _ _ | exact ih3 _ _ _ _ _ _ _ _ _ | exact impl_HowMeet.mono _ _ _ _ _ _ _ _ _ | exact impl_around.mono _ _ | exact LeO.none _ | refine LeO.ite ?_ ?_ | refine LeO.bind ?_ (fun _ => ?_)
  ·intro y0 y1 y2 y3 y4 y5
   unfold impl_IsRing.l1
   repeat' first | (with_reducible first | exact ih0 _ _ | exact ih1 _ _ _ | exact ih2 _ _ _ _ _ _ | exact ih3 _ _ _ _ _ _ _ _ _ | exact impl_HowMeet.mono _ _ _ _ _ _ _ _ _ | exact impl_around.mono _ _ | exact LeO.refl _ | exact LeO.none _ | refine LeO.ite ?_ ?_ | refine LeO.bind ?_ (fun _ => ?_)) | exact ih0 _ _ | exact ih1 _ _ _ | exact ih2 _ _ _ _ _ _ | exact ih3 _ _ _ _ _ _ _ _ _ | exact impl_HowMeet.mono _ _ _ _ _ _ _ _ _ | exact impl_around.mono _ _ | exact LeO.none _ | refine LeO.ite ?_ ?_ | refine LeO.bind ?_ (fun _ => ?_)
  ·intro y0 y1 y2 y3 y4 y5 y6 y7 y8
   unfold impl_IsRing.j3
   repeat' first | (with_reducible first | exact ih0 _ _ | exact ih1 _ _ _ | exact ih2 _ _ _ _ _ _ | exact ih3 _ _ _ _ _ _ _ _ _ | exact impl_HowMeet.mono _ _ _ _ _ _ _ _ _ | exact impl_around.mono _ _ | exact LeO.refl _ | exact LeO.none _ | refine LeO.ite ?_ ?_ | refine LeO.bind ?_ (fun _ => ?_)) | exact ih0 _ _ | exact ih1 _ _ _ | exact ih2 _ _ _ _ _ _ | exact ih3 _ _ _ _ _ _ _ _ _ | exact impl_HowMeet.mono _ _ _ _ _ _ _ _ _ | exact impl_around.mono _ _ | exact LeO.none _ | refine LeO.ite ?_ ?_ | refine LeO.bind ?_ (fun _ => ?_)
theorem impl_IsRing.mono : ∀ a0 k, LeO (impl_IsRing.f k a0) (impl_IsRing.f (k + 1) a0) := by
 intro a0 k; obtain ⟨ih0, ih1, ih2, ih3⟩ := impl_IsRing.mono_l k
 unfold impl_IsRing.f
 repeat' first | (with_reducible first | exact ih0 _ _ | exact ih1 _ _ _ | exact ih2 _ _ _ _ _ _ | exact ih3 _ _ _ _ _ _ _ _ _ | exact impl_HowMeet.mono _ _ _ _ _ _ _ _ _ | exact impl_around.mono _ _ | exact LeO.refl _ | exact LeO.none _ | refine LeO.ite ?_ ?_ | refine LeO.bind ?_ (fun _ => ?_)) | exact ih0 _ _ | exact ih1 _ _ _ | exact ih2 _ _ _ _ _ _ | exact ih3 _ _ _ _ _ _ _ _ _ | exact impl_HowMeet.mono _ _ _ _ _ _ _ _ _ | exact impl_around.mono _ _ | exact LeO.none _ | refine LeO.ite ?_ ?_ | refine LeO.bind ?_ (fun _ => ?_)
def impl_IsRing.T15 : Bool × List (List Nat × List Nat) := (true, [([], []), ([], []), ([0, 1], [0, 1]), ([2], [2]), ([], []), ([], []), ([4, 5], [4, 5]), ([6], [6]), ([3, 7], [3, 7]), ([], []), ([8, 9], [8, 9])])
def impl_IsRing.B15 : List Nat := [0, 0, 3, 7, 0, 0, 48, 112, 255, 0, 1023]
theorem impl_IsRing.tab15 : rtab .any (opsOf Try.f114 15) = impl_IsRing.T15 := by kernel_rfl
theorem impl_IsRing.bits15 : waitsOk impl_IsRing.T15.2 impl_IsRing.B15 = true := by kernel_rfl
set_option maxHeartbeats 8000000 in
set_option maxRecDepth 100000 in
theorem impl_IsRing.calls (k : Nat) (A0 : Option Addr) (c0 : Nat) (l0 : List (S82)) (r : Bool) (w : World) (hr0 : Kd.C k82 w A0 l0.length l0) (hc0 : l0.length ≤ c0) (h : impl_IsRing.f k l0 = some r) :
  Calls Try.prog 114 #[.slice A0 l0.length c0] w fun e w' => e = .returned (.bool r) ∧ Below w.heap.size w w' := by
 have hu85 := Try.underlying85; have HR0 := Aside0.mk hr0; have HC0 := Aside0.mk hc0; clear hr0 hc0; have HB := Aside0.mk (Below.refl w.heap.size w); have H : (if (l0.length : Int) < 3 then (impl_IsRing.j0 k l0 true) else (impl_IsRing.j0 k l0 (decide ((l0.length : Int) > 10)))) = some r := h; clear h; have HC2 := Aside0.mk H; clear H
 go_enter Try.func114, Try.ntmps114
 go_upto_region 1 with (fail)
 go_cut [14] (fun v14 wc => ∃ (kq : Nat) (x14_1 : Bool), v14 = .bool x14_1 ∧ Aside0 (impl_IsRing.j0 kq l0 x14_1 = some r) ∧ Aside0 (kq ≤ k) ∧ Aside0 (Below w.heap.size w wc))
 case first =>
  have H := HC2.out; clear HC2
  by_cases c3 : (l0.length : Int) < 3
  ·rw [if_pos c3] at H; have c3b0 := decide_eq_true c3; have c3b1 : decide (l0.length < 3) = true := decide_eq_true (by omega); clear c3
   (first | rw [c3b0] | (simp only [i64_w, i32_w]; rw [c3b0]) | skip)
   have H' := Aside0.mk H; clear H; go_wp2
   go_meet
   case rel => exact ⟨_, (true), rz, H', ⟨qz⟩, ⟨bz⟩⟩
  ·rw [if_neg c3] at H; have c3b0 := decide_eq_false c3; have c3b1 : decide (l0.length < 3) = false := decide_eq_false (by omega); clear c3
   (first | rw [c3b0] | (simp only [i64_w, i32_w]; rw [c3b0]) | skip)
   have H' := Aside0.mk H; clear H; go_wp2
   go_meet
   case rel => exact ⟨_, (decide ((l0.length : Int) > 10)), rz, H', ⟨qz⟩, ⟨bz⟩⟩
 case rest =>
  clear HC2; (try clear c1); (try clear p2); (try clear c3); (try clear c3b0); (try clear c3b1); obtain ⟨kq, x14_1, rfl, HA, HJ1, HB⟩ := hcut
  cases kq with
  | zero => exact absurd HA.out (by simp [impl_IsRing.j0])
  | succ kj1 =>
   have H := HA.out; clear HA; simp only [impl_IsRing.j0] at H
   by_cases c4 : x14_1 = true
   ·subst c4; replace H := ift H; obtain rfl := Option.some.inj H; go_wp2; go_ret
    exact ⟨ez, bz⟩
   ·replace c4 := Bool.eq_false_iff.mpr c4; subst c4; replace H := iff_ H; replace H := Option.bind_eq_some_iff.mp H; obtain ⟨t301, A50, H⟩ := H; have A5 := Aside0.mk A50; clear A50; have H' := Aside0.mk H; clear H; go_wp2_with (first | ((with_reducible refine gt (some 16) rfl ?_); refine gc Try.func150 (impl_around.calls kj1 _ _ l0 t301 _ cz0 HC0.out A5.out) ?_; rintro e w6 ⟨v302, rfl, ho0, hb⟩; refine ⟨_, rfl, ?_⟩; have HO303 := Aside0.mk (Kd.R_lower ho0 (below_size bz)); replace HB := Aside0.mk (below_step bz hb); (try clear hb); (try clear ho0); obtain ⟨Ao7, co7, eo7⟩ := Kd.R_slice HO303.out; subst eo7))
    go_loopg [19] kj1 (fun kq v19 w' => ∃ (x19_2 : Int), v19 = .int .i64 x19_2 ∧ Aside0 (impl_IsRing.l0 kq t301 (t301.length : Int) x19_2 = some r) ∧ Aside0 (kq ≤ kj1) ∧ Aside0 (Kd.R k85 85 w' w.heap.size (fun _ => True) (.slice Ao7 t301.length co7) t301) ∧ Aside0 (Below w.heap.size w w'))
    case atStart => exact ⟨(0), rz, H', ⟨Nat.le_refl _⟩, ⟨hr HO303.out⟩, ⟨bz⟩⟩
    case round =>
     clear H'; (try clear c1); (try clear p2); (try clear c3); (try clear c3b0); (try clear c3b1); (try clear c4); (try clear p2); obtain ⟨x19_2, rfl, HA, HK2, HO_3, HB⟩ := hrel
     cases gk with
     | zero => exact absurd HA.out (by simp [impl_IsRing.l0])
     | succ k2 =>
      have H := HA.out; clear HA; simp only [impl_IsRing.l0] at H
      by_cases c8 : x19_2 < (t301.length : Int)
      ·rw [if_pos c8] at H; have c8b0 := decide_eq_true c8; clear c8
       by_cases c9 : 0 ≤ x19_2
       ·rw [if_pos c9] at H; have c9b0 := decide_eq_true c9; clear c9
        by_cases c10 : x19_2 < (t301.length : Int)
        ·rw [if_pos c10] at H; have c10b0 := decide_eq_true c10; clear c10; replace H := Option.bind_eq_some_iff.mp H; obtain ⟨t305, A110, H⟩ := H; have A11 := Aside0.mk A110; clear A110
         by_cases c12 : t305 = true
         ·subst c12; replace H := ift H; have H' := Aside0.mk H; clear H; have p304 : 0 ≤ (x19_2 : Int) := of_decide_eq_true az; have q304 : x19_2 < (t301.length : Int) := of_decide_eq_true az; obtain ⟨ad304, e304, hx304_0, hx304_1, hx304_2, hx304_3⟩ := at_T85 (Kd.R_reads' HO_3.out).2.2 x19_2 p304 q304
          cases e304
          replace p304 := eq_true p304; replace q304 := eq_true q304; go_wp2_with (first | ((with_reducible refine gt (some 26) rfl ?_); refine gc Try.func151 (impl_IsSegment.calls ((rd_T85 t301 x19_2).f0.f0) ((rd_T85 t301 x19_2).f0.f1) ((rd_T85 t301 x19_2).f1.f0) ((rd_T85 t301 x19_2).f1.f1) true _ A11.out) ?_; rintro e w13 ⟨rfl, hb⟩; refine ⟨_, rfl, ?_⟩; replace HO_3 := Aside0.mk (rbz HO_3 hb); replace HB := Aside0.mk (below_step bz hb); (try clear hb)))
          go_loopg [29] k2 (fun kq v29 w' => ∃ (x29_3 : Int), v29 = .int .i64 x29_3 ∧ Aside0 (impl_IsRing.l1 kq t301 x19_2 (t301.length : Int) x19_2 x19_2 x29_3 = some r) ∧ Aside0 (kq ≤ k2) ∧ Aside0 (Kd.R k85 85 w' w.heap.size (fun _ => True) (.slice (some ad304) t301.length co7) t301) ∧ Aside0 (Below w.heap.size w w'))
          case atStart => exact ⟨(0), rz, H', ⟨Nat.le_refl _⟩, ⟨hr HO_3.out⟩, ⟨bz⟩⟩
          case round =>
           clear H'; (try clear c1); (try clear p2); (try clear c3); (try clear c3b0); (try clear c3b1); (try clear p3); (try clear q3); (try clear hx3); (try clear c4); (try clear c8); (try clear c8b0); (try clear c9); (try clear c9b0); (try clear c10); (try clear c10b0); (try clear c11); (try clear c12); (try clear hx304_0); (try clear hx304_1); (try clear hx304_2); (try clear hx304_3); (try clear p2); (try clear p304); (try clear q304); obtain ⟨x29_3, rfl, HA, HK3, HO_3, HB⟩ := hrel
           cases gk with
           | zero => exact absurd HA.out (by simp [impl_IsRing.l1])
           | succ k3 =>
            have H := HA.out; clear HA; simp only [impl_IsRing.l1] at H
            by_cases c14 : x29_3 < x19_2
            ·rw [if_pos c14] at H; have c14b0 := decide_eq_true c14; clear c14; have HC15 := Aside0.mk H; clear H
             go_upto_region 13 with (fail)
             go_cut [46] (fun v46 wc => ∃ (kq : Nat) (x46_14 : Bool), v46 = .bool x46_14 ∧ Aside0 (impl_IsRing.j3 kq t301 x19_2 x29_3 0 (t301.length : Int) x19_2 x19_2 x29_3 x46_14 = some r) ∧ Aside0 (kq ≤ k3) ∧ Aside0 (Kd.R k85 85 wc w.heap.size (fun _ => True) (.slice (some ad304) t301.length co7) t301) ∧ Aside0 (Below w.heap.size w wc))
             case first =>
              have H := HC15.out; clear HC15
              by_cases c16 : x29_3 = (wrap64 (x19_2 - 1))
              ·rw [if_pos c16] at H; have c16b0 : (x29_3 == (wrap64 (x19_2 - 1))) = true := beq_iff_eq.mpr c16; have c16b1 : (x29_3 != (wrap64 (x19_2 - 1))) = false := bne_eq_false_iff_eq.mpr c16; clear c16
               (first | rw [c16b0] | (simp only [i64_w, i32_w]; rw [c16b0]) | skip)
               have H' := Aside0.mk H; clear H; go_wp2
               go_meet
               case rel => exact ⟨_, (true), rz, H', ⟨by have := HJ1.out; have := HK2.out; have := HK3.out; first | omega | exact Nat.le_refl _⟩, ⟨hr HO_3.out⟩, ⟨bz⟩⟩
              ·rw [if_neg c16] at H; have c16b0 : (x29_3 == (wrap64 (x19_2 - 1))) = false := beq_eq_false_iff_ne.mpr c16; have c16b1 : (x29_3 != (wrap64 (x19_2 - 1))) = true := bne_iff_ne.mpr c16
               (first | rw [c16b0] | (simp only [i64_w, i32_w]; rw [c16b0]) | skip)
               by_cases c17 : x29_3 = 0
               ·rw [if_pos c17] at H; have c17b0 : (x29_3 == 0) = true := beq_iff_eq.mpr c17; have c17b1 : (x29_3 != 0) = false := bne_eq_false_iff_eq.mpr c17; clear c17; have H' := Aside0.mk H; clear H; go_wp2
                go_meet
                case rel => exact ⟨_, ((x19_2 == (wrap64 ((t301.length : Int) - 1)))), rz, H', ⟨by have := HJ1.out; have := HK2.out; have := HK3.out; first | omega | exact Nat.le_refl _⟩, ⟨hr HO_3.out⟩, ⟨bz⟩⟩
               ·rw [if_neg c17] at H; have c17b0 : (x29_3 == 0) = false := beq_eq_false_iff_ne.mpr c17; have c17b1 : (x29_3 != 0) = true := bne_iff_ne.mpr c17; have H' := Aside0.mk H; clear H; go_wp2
                go_meet
                case rel => exact ⟨_, (false), rz, H', ⟨by have := HJ1.out; have := HK2.out; have := HK3.out; first | omega | exact Nat.le_refl _⟩, ⟨hr HO_3.out⟩, ⟨bz⟩⟩
             case rest =>
              clear HC15; (try clear c1); (try clear p2); (try clear c3); (try clear c3b0); (try clear c3b1); (try clear p3); (try clear q3); (try clear hx3); (try clear c4); (try clear p6); (try clear c8); (try clear c8b0); (try clear c9); (try clear c9b0); (try clear c10); (try clear c10b0); (try clear c11); (try clear c12); (try clear c14); (try clear c14b0); (try clear c15); (try clear c16); (try clear c16b0); (try clear c16b1); (try clear c17); (try clear c17b0); (try clear c17b1); (try clear hx304_0); (try clear hx304_1); (try clear hx304_2); (try clear hx304_3); (try clear p2); (try clear p3); (try clear p304); (try clear q3); (try clear q304); obtain ⟨kq, x46_14, rfl, HA, HJ14, HO_3, HB⟩ := hcut
              cases kq with
              | zero => exact absurd HA.out (by simp [impl_IsRing.j3])
              | succ kj14 =>
               have H := HA.out; clear HA; simp only [impl_IsRing.j3] at H
               by_cases c18 : x46_14 = true
               ·subst c18; replace H := ift H
                by_cases c19 : 0 ≤ x19_2
                ·rw [if_pos c19] at H; have c19b0 := decide_eq_true c19; clear c19
                 by_cases c20 : x19_2 < (t301.length : Int)
                 ·rw [if_pos c20] at H; have c20b0 := decide_eq_true c20; clear c20
                  by_cases c21 : 0 ≤ x29_3
                  ·rw [if_pos c21] at H; have c21b0 := decide_eq_true c21; clear c21
                   by_cases c22 : x29_3 < (t301.length : Int)
                   ·rw [if_pos c22] at H; have c22b0 := decide_eq_true c22; clear c22; replace H := Option.bind_eq_some_iff.mp H; obtain ⟨t308, A230, H⟩ := H; have A23 := Aside0.mk A230; clear A230
                    by_cases c24 : t308 = 1
                    ·rw [if_pos c24] at H; have c24b0 : (t308 == 1) = true := beq_iff_eq.mpr c24; have c24b1 : (t308 != 1) = false := bne_eq_false_iff_eq.mpr c24; clear c24; have H' := Aside0.mk H; clear H; (try go_wp2); replace HO_3 := Aside0.mk (Kd.R_drew HO_3.out); replace HB := Aside0.mk (below_drew1 HB.out); have p306 : 0 ≤ (x19_2 : Int) := of_decide_eq_true az; have q306 : x19_2 < (t301.length : Int) := of_decide_eq_true az; obtain ⟨ad306, e306, hx306_0, hx306_1, hx306_2, hx306_3⟩ := at_T85 (Kd.R_reads' HO_3.out).2.2 x19_2 p306 q306; obtain rfl : ad304 = ad306 := (by injection e306)
                     replace p306 := eq_true p306; replace q306 := eq_true q306; have p307 : 0 ≤ (x29_3 : Int) := of_decide_eq_true az; have q307 : x29_3 < (t301.length : Int) := of_decide_eq_true az; obtain ⟨ad307, e307, hx307_0, hx307_1, hx307_2, hx307_3⟩ := at_T85 (Kd.R_reads' HO_3.out).2.2 x29_3 p307 q307; obtain rfl : ad304 = ad307 := (by injection e307)
                     replace p307 := eq_true p307; replace q307 := eq_true q307; refine start_ (n := 11) (S := fun w' => w'.cell? (ad304.add ((x19_2).toNat * 4)) = some (.int .i64 ((rd_T85 t301 x19_2).f0.f0)) ∧ w'.cell? ⟨(ad304.add ((x19_2).toNat * 4)).block, (ad304.add ((x19_2).toNat * 4)).off + 1, none⟩ = some (.int .i64 ((rd_T85 t301 x19_2).f0.f1)) ∧ w'.cell? ⟨(ad304.add ((x19_2).toNat * 4)).block, (ad304.add ((x19_2).toNat * 4)).off + 2, none⟩ = some (.int .i64 ((rd_T85 t301 x19_2).f1.f0)) ∧ w'.cell? ⟨(ad304.add ((x19_2).toNat * 4)).block, (ad304.add ((x19_2).toNat * 4)).off + 3, none⟩ = some (.int .i64 ((rd_T85 t301 x19_2).f1.f1)) ∧ w'.cell? (ad304.add ((x29_3).toNat * 4)) = some (.int .i64 ((rd_T85 t301 x29_3).f0.f0)) ∧ w'.cell? ⟨(ad304.add ((x29_3).toNat * 4)).block, (ad304.add ((x29_3).toNat * 4)).off + 1, none⟩ = some (.int .i64 ((rd_T85 t301 x29_3).f0.f1)) ∧ w'.cell? ⟨(ad304.add ((x29_3).toNat * 4)).block, (ad304.add ((x29_3).toNat * 4)).off + 2, none⟩ = some (.int .i64 ((rd_T85 t301 x29_3).f1.f0)) ∧ w'.cell? ⟨(ad304.add ((x29_3).toNat * 4)).block, (ad304.add ((x29_3).toNat * 4)).off + 3, none⟩ = some (.int .i64 ((rd_T85 t301 x29_3).f1.f1))) (ds := []) #[F,F,F,F,F,F,F,F,F,F,F] (by kernel_rfl) rfl rfl ⟨hx306_0, hx306_1, hx306_2, hx306_3, hx307_0, hx307_1, hx307_2, hx307_3⟩ (fun hHeld => ?_); refine with_tabW impl_IsRing.tab15 impl_IsRing.bits15 (fun HT_ HW_ => ?_); generalize wc.drew = w25 at HO_3 HB hx306_0 hx306_1 hx306_2 hx306_3 hx307_0 hx307_1 hx307_2 hx307_3 hHeld ⊢
                     refine pz HT_ 0 47 ?_; refine pz HT_ 1 48 ?_; refine pz HT_ 2 49 ?_; refine pz HT_ 4 51 ?_; refine pz HT_ 5 52 ?_; refine pz HT_ 6 53 ?_; refine pz HT_ 9 56 ?_; refine tz8 HT_ HW_ hHeld 3 50 ?_; refine tz8 HT_ HW_ hHeld 7 54 ?_; refine oz HT_ 8 (some 55) (fun K hK => ?_); refine gz Try.func152 #[.agg #[.int .i64 ((rd_T85 t301 x19_2).f0.f0), .int .i64 ((rd_T85 t301 x19_2).f0.f1), .int .i64 ((rd_T85 t301 x19_2).f1.f0), .int .i64 ((rd_T85 t301 x19_2).f1.f1)], .agg #[.int .i64 ((rd_T85 t301 x29_3).f0.f0), .int .i64 ((rd_T85 t301 x29_3).f0.f1), .int .i64 ((rd_T85 t301 x29_3).f1.f0), .int .i64 ((rd_T85 t301 x29_3).f1.f1)]] ?_
                     with_reducible refine (impl_HowMeet.calls kj14 ((rd_T85 t301 x19_2).f0.f0) ((rd_T85 t301 x19_2).f0.f1) ((rd_T85 t301 x19_2).f1.f0) ((rd_T85 t301 x19_2).f1.f1) ((rd_T85 t301 x29_3).f0.f0) ((rd_T85 t301 x29_3).f0.f1) ((rd_T85 t301 x29_3).f1.f0) ((rd_T85 t301 x29_3).f1.f1) t308 _ A23.out).mono ?_
                     rintro e w26 ⟨rfl, hb⟩; have HS0_ := yz hb hHeld.1; have HS1_ := yz hb hHeld.2.1; have HS2_ := yz hb hHeld.2.2.1; have HS3_ := yz hb hHeld.2.2.2.1; have HS4_ := yz hb hHeld.2.2.2.2.1; have HS5_ := yz hb hHeld.2.2.2.2.2.1; have HS6_ := yz hb hHeld.2.2.2.2.2.2.1; have HS7_ := yz hb hHeld.2.2.2.2.2.2.2; refine ⟨_, rfl, ?_⟩; replace HO_3 := Aside0.mk (rbz HO_3 hb); replace HB := Aside0.mk (below_step bz hb); (try clear hb); (try clear hb2); (try clear hk); (try clear hi); refine hK.out _ _ ⟨HS0_, HS1_, HS2_, HS3_, HS4_, HS5_, HS6_, HS7_⟩ (fun hHeld => ?_); clear hK K; refine nz 55 ?_; refine pz HT_ 10 57 ?_; refine dz HT_ ?_; (try go_wp2)
                     go_roundg kj14
                     case measure => have := HJ1.out; have := HK2.out; have := HK3.out; have := HJ14.out; omega
                     case rel => exact ⟨(wrap64 (x29_3 + 1)), rz, H', ⟨by have := HJ1.out; have := HK2.out; have := HK3.out; have := HJ14.out; omega⟩, ⟨hr HO_3.out⟩, ⟨bz⟩⟩
                    ·rw [if_neg c24] at H; have c24b0 : (t308 == 1) = false := beq_eq_false_iff_ne.mpr c24; have c24b1 : (t308 != 1) = true := bne_iff_ne.mpr c24; obtain rfl := Option.some.inj H; (try go_wp2); replace HO_3 := Aside0.mk (Kd.R_drew HO_3.out); replace HB := Aside0.mk (below_drew1 HB.out); have p306 : 0 ≤ (x19_2 : Int) := of_decide_eq_true az; have q306 : x19_2 < (t301.length : Int) := of_decide_eq_true az; obtain ⟨ad306, e306, hx306_0, hx306_1, hx306_2, hx306_3⟩ := at_T85 (Kd.R_reads' HO_3.out).2.2 x19_2 p306 q306; obtain rfl : ad304 = ad306 := (by injection e306)
                     replace p306 := eq_true p306; replace q306 := eq_true q306; have p307 : 0 ≤ (x29_3 : Int) := of_decide_eq_true az; have q307 : x29_3 < (t301.length : Int) := of_decide_eq_true az; obtain ⟨ad307, e307, hx307_0, hx307_1, hx307_2, hx307_3⟩ := at_T85 (Kd.R_reads' HO_3.out).2.2 x29_3 p307 q307; obtain rfl : ad304 = ad307 := (by injection e307)
                     replace p307 := eq_true p307; replace q307 := eq_true q307; refine start_ (n := 11) (S := fun w' => w'.cell? (ad304.add ((x19_2).toNat * 4)) = some (.int .i64 ((rd_T85 t301 x19_2).f0.f0)) ∧ w'.cell? ⟨(ad304.add ((x19_2).toNat * 4)).block, (ad304.add ((x19_2).toNat * 4)).off + 1, none⟩ = some (.int .i64 ((rd_T85 t301 x19_2).f0.f1)) ∧ w'.cell? ⟨(ad304.add ((x19_2).toNat * 4)).block, (ad304.add ((x19_2).toNat * 4)).off + 2, none⟩ = some (.int .i64 ((rd_T85 t301 x19_2).f1.f0)) ∧ w'.cell? ⟨(ad304.add ((x19_2).toNat * 4)).block, (ad304.add ((x19_2).toNat * 4)).off + 3, none⟩ = some (.int .i64 ((rd_T85 t301 x19_2).f1.f1)) ∧ w'.cell? (ad304.add ((x29_3).toNat * 4)) = some (.int .i64 ((rd_T85 t301 x29_3).f0.f0)) ∧ w'.cell? ⟨(ad304.add ((x29_3).toNat * 4)).block, (ad304.add ((x29_3).toNat * 4)).off + 1, none⟩ = some (.int .i64 ((rd_T85 t301 x29_3).f0.f1)) ∧ w'.cell? ⟨(ad304.add ((x29_3).toNat * 4)).block, (ad304.add ((x29_3).toNat * 4)).off + 2, none⟩ = some (.int .i64 ((rd_T85 t301 x29_3).f1.f0)) ∧ w'.cell? ⟨(ad304.add ((x29_3).toNat * 4)).block, (ad304.add ((x29_3).toNat * 4)).off + 3, none⟩ = some (.int .i64 ((rd_T85 t301 x29_3).f1.f1))) (ds := []) #[F,F,F,F,F,F,F,F,F,F,F] (by kernel_rfl) rfl rfl ⟨hx306_0, hx306_1, hx306_2, hx306_3, hx307_0, hx307_1, hx307_2, hx307_3⟩ (fun hHeld => ?_); refine with_tabW impl_IsRing.tab15 impl_IsRing.bits15 (fun HT_ HW_ => ?_); generalize wc.drew = w27 at HO_3 HB hx306_0 hx306_1 hx306_2 hx306_3 hx307_0 hx307_1 hx307_2 hx307_3 hHeld ⊢
                     refine pz HT_ 0 47 ?_; refine pz HT_ 1 48 ?_; refine pz HT_ 2 49 ?_; refine pz HT_ 4 51 ?_; refine pz HT_ 5 52 ?_; refine pz HT_ 6 53 ?_; refine pz HT_ 9 56 ?_; refine tz8 HT_ HW_ hHeld 3 50 ?_; refine tz8 HT_ HW_ hHeld 7 54 ?_; refine oz HT_ 8 (some 55) (fun K hK => ?_); refine gz Try.func152 #[.agg #[.int .i64 ((rd_T85 t301 x19_2).f0.f0), .int .i64 ((rd_T85 t301 x19_2).f0.f1), .int .i64 ((rd_T85 t301 x19_2).f1.f0), .int .i64 ((rd_T85 t301 x19_2).f1.f1)], .agg #[.int .i64 ((rd_T85 t301 x29_3).f0.f0), .int .i64 ((rd_T85 t301 x29_3).f0.f1), .int .i64 ((rd_T85 t301 x29_3).f1.f0), .int .i64 ((rd_T85 t301 x29_3).f1.f1)]] ?_
                     with_reducible refine (impl_HowMeet.calls kj14 ((rd_T85 t301 x19_2).f0.f0) ((rd_T85 t301 x19_2).f0.f1) ((rd_T85 t301 x19_2).f1.f0) ((rd_T85 t301 x19_2).f1.f1) ((rd_T85 t301 x29_3).f0.f0) ((rd_T85 t301 x29_3).f0.f1) ((rd_T85 t301 x29_3).f1.f0) ((rd_T85 t301 x29_3).f1.f1) t308 _ A23.out).mono ?_
                     rintro e w28 ⟨rfl, hb⟩; have HS0_ := yz hb hHeld.1; have HS1_ := yz hb hHeld.2.1; have HS2_ := yz hb hHeld.2.2.1; have HS3_ := yz hb hHeld.2.2.2.1; have HS4_ := yz hb hHeld.2.2.2.2.1; have HS5_ := yz hb hHeld.2.2.2.2.2.1; have HS6_ := yz hb hHeld.2.2.2.2.2.2.1; have HS7_ := yz hb hHeld.2.2.2.2.2.2.2; refine ⟨_, rfl, ?_⟩; replace HO_3 := Aside0.mk (rbz HO_3 hb); replace HB := Aside0.mk (below_step bz hb); (try clear hb); (try clear hb2); (try clear hk); (try clear hi); refine hK.out _ _ ⟨HS0_, HS1_, HS2_, HS3_, HS4_, HS5_, HS6_, HS7_⟩ (fun hHeld => ?_); clear hK K; refine nz 55 ?_; refine pz HT_ 10 57 ?_; refine dz HT_ ?_; (try go_wp2); go_ret
                     exact ⟨ez, bz⟩
                   ·rw [if_neg c22] at H
                    exact absurd H (by simp)
                  ·rw [if_neg c21] at H
                   exact absurd H (by simp)
                 ·rw [if_neg c20] at H
                  exact absurd H (by simp)
                ·rw [if_neg c19] at H
                 exact absurd H (by simp)
               ·replace c18 := Bool.eq_false_iff.mpr c18; subst c18; replace H := iff_ H
                by_cases c29 : 0 ≤ x19_2
                ·rw [if_pos c29] at H; have c29b0 := decide_eq_true c29; clear c29
                 by_cases c30 : x19_2 < (t301.length : Int)
                 ·rw [if_pos c30] at H; have c30b0 := decide_eq_true c30; clear c30
                  by_cases c31 : 0 ≤ x29_3
                  ·rw [if_pos c31] at H; have c31b0 := decide_eq_true c31; clear c31
                   by_cases c32 : x29_3 < (t301.length : Int)
                   ·rw [if_pos c32] at H; have c32b0 := decide_eq_true c32; clear c32; replace H := Option.bind_eq_some_iff.mp H; obtain ⟨t311, A330, H⟩ := H; have A33 := Aside0.mk A330; clear A330
                    by_cases c34 : t311 = 0
                    ·rw [if_pos c34] at H; have c34b0 : (t311 == 0) = true := beq_iff_eq.mpr c34; have c34b1 : (t311 != 0) = false := bne_eq_false_iff_eq.mpr c34; clear c34; have H' := Aside0.mk H; clear H; (try go_wp2); replace HO_3 := Aside0.mk (Kd.R_drew HO_3.out); replace HB := Aside0.mk (below_drew1 HB.out); have p309 : 0 ≤ (x19_2 : Int) := of_decide_eq_true az; have q309 : x19_2 < (t301.length : Int) := of_decide_eq_true az; obtain ⟨ad309, e309, hx309_0, hx309_1, hx309_2, hx309_3⟩ := at_T85 (Kd.R_reads' HO_3.out).2.2 x19_2 p309 q309; obtain rfl : ad304 = ad309 := (by injection e309)
                     replace p309 := eq_true p309; replace q309 := eq_true q309; have p310 : 0 ≤ (x29_3 : Int) := of_decide_eq_true az; have q310 : x29_3 < (t301.length : Int) := of_decide_eq_true az; obtain ⟨ad310, e310, hx310_0, hx310_1, hx310_2, hx310_3⟩ := at_T85 (Kd.R_reads' HO_3.out).2.2 x29_3 p310 q310; obtain rfl : ad304 = ad310 := (by injection e310)
                     replace p310 := eq_true p310; replace q310 := eq_true q310; refine start_ (n := 11) (S := fun w' => w'.cell? (ad304.add ((x19_2).toNat * 4)) = some (.int .i64 ((rd_T85 t301 x19_2).f0.f0)) ∧ w'.cell? ⟨(ad304.add ((x19_2).toNat * 4)).block, (ad304.add ((x19_2).toNat * 4)).off + 1, none⟩ = some (.int .i64 ((rd_T85 t301 x19_2).f0.f1)) ∧ w'.cell? ⟨(ad304.add ((x19_2).toNat * 4)).block, (ad304.add ((x19_2).toNat * 4)).off + 2, none⟩ = some (.int .i64 ((rd_T85 t301 x19_2).f1.f0)) ∧ w'.cell? ⟨(ad304.add ((x19_2).toNat * 4)).block, (ad304.add ((x19_2).toNat * 4)).off + 3, none⟩ = some (.int .i64 ((rd_T85 t301 x19_2).f1.f1)) ∧ w'.cell? (ad304.add ((x29_3).toNat * 4)) = some (.int .i64 ((rd_T85 t301 x29_3).f0.f0)) ∧ w'.cell? ⟨(ad304.add ((x29_3).toNat * 4)).block, (ad304.add ((x29_3).toNat * 4)).off + 1, none⟩ = some (.int .i64 ((rd_T85 t301 x29_3).f0.f1)) ∧ w'.cell? ⟨(ad304.add ((x29_3).toNat * 4)).block, (ad304.add ((x29_3).toNat * 4)).off + 2, none⟩ = some (.int .i64 ((rd_T85 t301 x29_3).f1.f0)) ∧ w'.cell? ⟨(ad304.add ((x29_3).toNat * 4)).block, (ad304.add ((x29_3).toNat * 4)).off + 3, none⟩ = some (.int .i64 ((rd_T85 t301 x29_3).f1.f1))) (ds := []) #[F,F,F,F,F,F,F,F,F,F,F] (by kernel_rfl) rfl rfl ⟨hx309_0, hx309_1, hx309_2, hx309_3, hx310_0, hx310_1, hx310_2, hx310_3⟩ (fun hHeld => ?_); refine with_tabW impl_IsRing.tab15 impl_IsRing.bits15 (fun HT_ HW_ => ?_); generalize wc.drew = w35 at HO_3 HB hx309_0 hx309_1 hx309_2 hx309_3 hx310_0 hx310_1 hx310_2 hx310_3 hHeld ⊢
                     refine pz HT_ 0 47 ?_; refine pz HT_ 1 48 ?_; refine pz HT_ 2 49 ?_; refine pz HT_ 4 51 ?_; refine pz HT_ 5 52 ?_; refine pz HT_ 6 53 ?_; refine pz HT_ 9 56 ?_; refine tz8 HT_ HW_ hHeld 3 50 ?_; refine tz8 HT_ HW_ hHeld 7 54 ?_; refine oz HT_ 8 (some 55) (fun K hK => ?_); refine gz Try.func152 #[.agg #[.int .i64 ((rd_T85 t301 x19_2).f0.f0), .int .i64 ((rd_T85 t301 x19_2).f0.f1), .int .i64 ((rd_T85 t301 x19_2).f1.f0), .int .i64 ((rd_T85 t301 x19_2).f1.f1)], .agg #[.int .i64 ((rd_T85 t301 x29_3).f0.f0), .int .i64 ((rd_T85 t301 x29_3).f0.f1), .int .i64 ((rd_T85 t301 x29_3).f1.f0), .int .i64 ((rd_T85 t301 x29_3).f1.f1)]] ?_
                     with_reducible refine (impl_HowMeet.calls kj14 ((rd_T85 t301 x19_2).f0.f0) ((rd_T85 t301 x19_2).f0.f1) ((rd_T85 t301 x19_2).f1.f0) ((rd_T85 t301 x19_2).f1.f1) ((rd_T85 t301 x29_3).f0.f0) ((rd_T85 t301 x29_3).f0.f1) ((rd_T85 t301 x29_3).f1.f0) ((rd_T85 t301 x29_3).f1.f1) t311 _ A33.out).mono ?_
                     rintro e w36 ⟨rfl, hb⟩; have HS0_ := yz hb hHeld.1; have HS1_ := yz hb hHeld.2.1; have HS2_ := yz hb hHeld.2.2.1; have HS3_ := yz hb hHeld.2.2.2.1; have HS4_ := yz hb hHeld.2.2.2.2.1; have HS5_ := yz hb hHeld.2.2.2.2.2.1; have HS6_ := yz hb hHeld.2.2.2.2.2.2.1; have HS7_ := yz hb hHeld.2.2.2.2.2.2.2; refine ⟨_, rfl, ?_⟩; replace HO_3 := Aside0.mk (rbz HO_3 hb); replace HB := Aside0.mk (below_step bz hb); (try clear hb); (try clear hb2); (try clear hk); (try clear hi); refine hK.out _ _ ⟨HS0_, HS1_, HS2_, HS3_, HS4_, HS5_, HS6_, HS7_⟩ (fun hHeld => ?_); clear hK K; refine nz 55 ?_; refine pz HT_ 10 57 ?_; refine dz HT_ ?_; (try go_wp2)
                     go_roundg kj14
                     case measure => have := HJ1.out; have := HK2.out; have := HK3.out; have := HJ14.out; omega
                     case rel => exact ⟨(wrap64 (x29_3 + 1)), rz, H', ⟨by have := HJ1.out; have := HK2.out; have := HK3.out; have := HJ14.out; omega⟩, ⟨hr HO_3.out⟩, ⟨bz⟩⟩
                    ·rw [if_neg c34] at H; have c34b0 : (t311 == 0) = false := beq_eq_false_iff_ne.mpr c34; have c34b1 : (t311 != 0) = true := bne_iff_ne.mpr c34; obtain rfl := Option.some.inj H; (try go_wp2); replace HO_3 := Aside0.mk (Kd.R_drew HO_3.out); replace HB := Aside0.mk (below_drew1 HB.out); have p309 : 0 ≤ (x19_2 : Int) := of_decide_eq_true az; have q309 : x19_2 < (t301.length : Int) := of_decide_eq_true az; obtain ⟨ad309, e309, hx309_0, hx309_1, hx309_2, hx309_3⟩ := at_T85 (Kd.R_reads' HO_3.out).2.2 x19_2 p309 q309; obtain rfl : ad304 = ad309 := (by injection e309)
                     replace p309 := eq_true p309; replace q309 := eq_true q309; have p310 : 0 ≤ (x29_3 : Int) := of_decide_eq_true az; have q310 : x29_3 < (t301.length : Int) := of_decide_eq_true az; obtain ⟨ad310, e310, hx310_0, hx310_1, hx310_2, hx310_3⟩ := at_T85 (Kd.R_reads' HO_3.out).2.2 x29_3 p310 q310; obtain rfl : ad304 = ad310 := (by injection e310)
                     replace p310 := eq_true p310; replace q310 := eq_true q310; refine start_ (n := 11) (S := fun w' => w'.cell? (ad304.add ((x19_2).toNat * 4)) = some (.int .i64 ((rd_T85 t301 x19_2).f0.f0)) ∧ w'.cell? ⟨(ad304.add ((x19_2).toNat * 4)).block, (ad304.add ((x19_2).toNat * 4)).off + 1, none⟩ = some (.int .i64 ((rd_T85 t301 x19_2).f0.f1)) ∧ w'.cell? ⟨(ad304.add ((x19_2).toNat * 4)).block, (ad304.add ((x19_2).toNat * 4)).off + 2, none⟩ = some (.int .i64 ((rd_T85 t301 x19_2).f1.f0)) ∧ w'.cell? ⟨(ad304.add ((x19_2).toNat * 4)).block, (ad304.add ((x19_2).toNat * 4)).off + 3, none⟩ = some (.int .i64 ((rd_T85 t301 x19_2).f1.f1)) ∧ w'.cell? (ad304.add ((x29_3).toNat * 4)) = some (.int .i64 ((rd_T85 t301 x29_3).f0.f0)) ∧ w'.cell? ⟨(ad304.add ((x29_3).toNat * 4)).block, (ad304.add ((x29_3).toNat * 4)).off + 1, none⟩ = some (.int .i64 ((rd_T85 t301 x29_3).f0.f1)) ∧ w'.cell? ⟨(ad304.add ((x29_3).toNat * 4)).block, (ad304.add ((x29_3).toNat * 4)).off + 2, none⟩ = some (.int .i64 ((rd_T85 t301 x29_3).f1.f0)) ∧ w'.cell? ⟨(ad304.add ((x29_3).toNat * 4)).block, (ad304.add ((x29_3).toNat * 4)).off + 3, none⟩ = some (.int .i64 ((rd_T85 t301 x29_3).f1.f1))) (ds := []) #[F,F,F,F,F,F,F,F,F,F,F] (by kernel_rfl) rfl rfl ⟨hx309_0, hx309_1, hx309_2, hx309_3, hx310_0, hx310_1, hx310_2, hx310_3⟩ (fun hHeld => ?_); refine with_tabW impl_IsRing.tab15 impl_IsRing.bits15 (fun HT_ HW_ => ?_); generalize wc.drew = w37 at HO_3 HB hx309_0 hx309_1 hx309_2 hx309_3 hx310_0 hx310_1 hx310_2 hx310_3 hHeld ⊢
                     refine pz HT_ 0 47 ?_; refine pz HT_ 1 48 ?_; refine pz HT_ 2 49 ?_; refine pz HT_ 4 51 ?_; refine pz HT_ 5 52 ?_; refine pz HT_ 6 53 ?_; refine pz HT_ 9 56 ?_; refine tz8 HT_ HW_ hHeld 3 50 ?_; refine tz8 HT_ HW_ hHeld 7 54 ?_; refine oz HT_ 8 (some 55) (fun K hK => ?_); refine gz Try.func152 #[.agg #[.int .i64 ((rd_T85 t301 x19_2).f0.f0), .int .i64 ((rd_T85 t301 x19_2).f0.f1), .int .i64 ((rd_T85 t301 x19_2).f1.f0), .int .i64 ((rd_T85 t301 x19_2).f1.f1)], .agg #[.int .i64 ((rd_T85 t301 x29_3).f0.f0), .int .i64 ((rd_T85 t301 x29_3).f0.f1), .int .i64 ((rd_T85 t301 x29_3).f1.f0), .int .i64 ((rd_T85 t301 x29_3).f1.f1)]] ?_
                     with_reducible refine (impl_HowMeet.calls kj14 ((rd_T85 t301 x19_2).f0.f0) ((rd_T85 t301 x19_2).f0.f1) ((rd_T85 t301 x19_2).f1.f0) ((rd_T85 t301 x19_2).f1.f1) ((rd_T85 t301 x29_3).f0.f0) ((rd_T85 t301 x29_3).f0.f1) ((rd_T85 t301 x29_3).f1.f0) ((rd_T85 t301 x29_3).f1.f1) t311 _ A33.out).mono ?_
                     rintro e w38 ⟨rfl, hb⟩; have HS0_ := yz hb hHeld.1; have HS1_ := yz hb hHeld.2.1; have HS2_ := yz hb hHeld.2.2.1; have HS3_ := yz hb hHeld.2.2.2.1; have HS4_ := yz hb hHeld.2.2.2.2.1; have HS5_ := yz hb hHeld.2.2.2.2.2.1; have HS6_ := yz hb hHeld.2.2.2.2.2.2.1; have HS7_ := yz hb hHeld.2.2.2.2.2.2.2; refine ⟨_, rfl, ?_⟩; replace HO_3 := Aside0.mk (rbz HO_3 hb); replace HB := Aside0.mk (below_step bz hb); (try clear hb); (try clear hb2); (try clear hk); (try clear hi); refine hK.out _ _ ⟨HS0_, HS1_, HS2_, HS3_, HS4_, HS5_, HS6_, HS7_⟩ (fun hHeld => ?_); clear hK K; refine nz 55 ?_; refine pz HT_ 10 57 ?_; refine dz HT_ ?_; (try go_wp2); go_ret
                     exact ⟨ez, bz⟩
                   ·rw [if_neg c32] at H
                    exact absurd H (by simp)
                  ·rw [if_neg c31] at H
                   exact absurd H (by simp)
                 ·rw [if_neg c30] at H
                  exact absurd H (by simp)
                ·rw [if_neg c29] at H
                 exact absurd H (by simp)
            ·rw [if_neg c14] at H; have c14b0 := decide_eq_false c14; clear c14; have H' := Aside0.mk H; clear H; go_wp2
             go_roundg k3
             case measure => have := HJ1.out; have := HK2.out; have := HK3.out; omega
             case rel => exact ⟨(wrap64 (x19_2 + 1)), rz, H', ⟨by have := HJ1.out; have := HK2.out; have := HK3.out; omega⟩, ⟨hr HO_3.out⟩, ⟨bz⟩⟩
         ·replace c12 := Bool.eq_false_iff.mpr c12; subst c12; replace H := iff_ H; obtain rfl := Option.some.inj H; have p304 : 0 ≤ (x19_2 : Int) := of_decide_eq_true az; have q304 : x19_2 < (t301.length : Int) := of_decide_eq_true az; obtain ⟨ad304, e304, hx304_0, hx304_1, hx304_2, hx304_3⟩ := at_T85 (Kd.R_reads' HO_3.out).2.2 x19_2 p304 q304
          cases e304
          replace p304 := eq_true p304; replace q304 := eq_true q304; go_wp2_with (first | ((with_reducible refine gt (some 26) rfl ?_); refine gc Try.func151 (impl_IsSegment.calls ((rd_T85 t301 x19_2).f0.f0) ((rd_T85 t301 x19_2).f0.f1) ((rd_T85 t301 x19_2).f1.f0) ((rd_T85 t301 x19_2).f1.f1) false _ A11.out) ?_; rintro e w39 ⟨rfl, hb⟩; refine ⟨_, rfl, ?_⟩; replace HO_3 := Aside0.mk (rbz HO_3 hb); replace HB := Aside0.mk (below_step bz hb); (try clear hb))); go_ret
          exact ⟨ez, bz⟩
        ·rw [if_neg c10] at H
         exact absurd H (by simp)
       ·rw [if_neg c9] at H
        exact absurd H (by simp)
      ·rw [if_neg c8] at H; have c8b0 := decide_eq_false c8; clear c8; obtain rfl := Option.some.inj H; go_wp2; go_ret
       exact ⟨ez, bz⟩

end Go.Proofs.Ytdfehjfmihokpaa.PFnExactAllPieces
