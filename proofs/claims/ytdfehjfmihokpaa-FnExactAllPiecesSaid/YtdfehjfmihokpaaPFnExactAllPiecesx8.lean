-- Written by a program of this session's: the kit's print, turned (turnprint.py): functions, and that Go comes to just their answers.
import Derived.Test.YtdfehjfmihokpaaZ
import Derived.Test.YtdfehjfmihokpaaPFnExactAllPiecesx0
import Derived.Test.YtdfehjfmihokpaaPFnExactAllPiecesx5
import Derived.Test.YtdfehjfmihokpaaPFnExactAllPiecesx7
namespace Go.Proofs.Ytdfehjfmihokpaa.PFnExactAllPieces
open Go.RowKit Go.Proofs.YtdfehjfmihokpaaW.PrintWords Go.Proofs.YtdfehjfmihokpaaW.PrintLast Go.Proofs.YtdfehjfmihokpaaW.PrintMore Go.Proofs.YtdfehjfmihokpaaGeo Go.Proofs.YtdfehjfmihokpaaHand Go.Proofs.YtdfehjfmihokpaaMeet Go.Proofs.YtdfehjfmihokpaaQuiet Go.Proofs.YtdfehjfmihokpaaZ
attribute [local go_sem] max2_int min2_int max_two min_two max_three min_three max_four min_four   -- for this text's walks alone
set_option linter.unusedVariables false
set_option linter.unusedSimpArgs false

/-! ### spec_IsRing: function 109 -/
mutual
def spec_IsRing.l0 : Nat → List (S85) → Int → Option (Bool)
 | 0, _, _ => none
 | k + 1, x3, x4 => if x4 < (x3.length : Int) then (if 0 ≤ x4 then ((spec_IsSegment.f ((rd_T85 x3 x4).f0.f0) ((rd_T85 x3 x4).f0.f1) ((rd_T85 x3 x4).f1.f0) ((rd_T85 x3 x4).f1.f1)).bind fun t180 => (if t180 = true then (spec_IsRing.l1 k x3 x4 0) else (some false))) else (none)) else (some true)
def spec_IsRing.l1 : Nat → List (S85) → Int → Int → Option (Bool)
 | 0, _, _, _ => none
 | k + 1, x3, x4, x5 => if x5 < x4 then (if (wrap64 (x5 + 1)) = x4 then (spec_IsRing.j2 k x3 x4 x5 0 true) else (if x5 = 0 then (spec_IsRing.j2 k x3 x4 x5 0 ((wrap64 (x4 + 1)) == (x3.length : Int))) else (spec_IsRing.j2 k x3 x4 x5 0 false))) else (spec_IsRing.l0 k x3 (wrap64 (x4 + 1)))
def spec_IsRing.j2 : Nat → List (S85) → Int → Int → Int → Bool → Option (Bool)
 | 0, _, _, _, _, _ => none
 | k + 1, x3, x4, x5, x6, x44 => if x44 = true then (if 0 ≤ x4 then (if x4 < (x3.length : Int) then (if 0 ≤ x5 then (if x5 < (x3.length : Int) then ((spec_HowMeet.f ((rd_T85 x3 x4).f0.f0) ((rd_T85 x3 x4).f0.f1) ((rd_T85 x3 x4).f1.f0) ((rd_T85 x3 x4).f1.f1) ((rd_T85 x3 x5).f0.f0) ((rd_T85 x3 x5).f0.f1) ((rd_T85 x3 x5).f1.f0) ((rd_T85 x3 x5).f1.f1)).bind fun t183 => (if t183 = 1 then (spec_IsRing.l1 k x3 x4 (wrap64 (x5 + 1))) else (some false))) else (none)) else (none)) else (none)) else (none)) else (if 0 ≤ x4 then (if x4 < (x3.length : Int) then (if 0 ≤ x5 then (if x5 < (x3.length : Int) then ((spec_HowMeet.f ((rd_T85 x3 x4).f0.f0) ((rd_T85 x3 x4).f0.f1) ((rd_T85 x3 x4).f1.f0) ((rd_T85 x3 x4).f1.f1) ((rd_T85 x3 x5).f0.f0) ((rd_T85 x3 x5).f0.f1) ((rd_T85 x3 x5).f1.f0) ((rd_T85 x3 x5).f1.f1)).bind fun t186 => (if t186 = x6 then (spec_IsRing.l1 k x3 x4 (wrap64 (x5 + 1))) else (some false))) else (none)) else (none)) else (none)) else (none))
end
def spec_IsRing.f (k : Nat) (l0 : List (S82)) : Option (Bool) := (spec_l1In.f (l0.length : Int) 3 10).bind fun t175 => (if t175 = true then ((spec_l7Segments.f k l0).bind fun t176 => (spec_IsRing.l0 k t176 0)) else (some false))
theorem spec_IsRing.mono_l : ∀ k, (∀ y0 y1, LeO (spec_IsRing.l0 k y0 y1) (spec_IsRing.l0 (k + 1) y0 y1)) ∧ (∀ y0 y1 y2, LeO (spec_IsRing.l1 k y0 y1 y2) (spec_IsRing.l1 (k + 1) y0 y1 y2)) ∧ (∀ y0 y1 y2 y3 y4, LeO (spec_IsRing.j2 k y0 y1 y2 y3 y4) (spec_IsRing.j2 (k + 1) y0 y1 y2 y3 y4))
 | 0 => ⟨fun _ _ r h => by simp [spec_IsRing.l0] at h, fun _ _ _ r h => by simp [spec_IsRing.l1] at h, fun _ _ _ _ _ r h => by simp [spec_IsRing.j2] at h⟩
 | k + 1 => by
  obtain ⟨ih0, ih1, ih2⟩ := spec_IsRing.mono_l k; refine ⟨?_, ?_, ?_⟩
  ·intro y0 y1
   unfold spec_IsRing.l0
   repeat' first | (with_reducible first | exact ih0 _ _ | exact ih1 _ _ _ | exact ih2 _ _ _ _ _ | exact spec_l7Segments.mono _ _ | exact LeO.refl _ | exact LeO.none _ | refine LeO.ite ?_ ?_ | refine LeO.bind ?_ (fun _ => ?_)) | exact ih0 _ _ | exact ih1 _ _ _ | exact ih2 _ _ _ _ _ | exact spec_l7Segments.mono _ _ | exact LeO.none _ | refine LeO.ite ?_ ?_ | refine LeO.bind ?_ (fun _ => ?_)
  ·intro y0 y1 y2
   unfold spec_IsRing.l1
   repeat' first | (with_reducible first | exact ih0 _ _ | exact ih1 _ _ _ | exact ih2 _ _ _ _ _ | exact spec_l7Segments.mono _ _ | exact LeO.refl _ | exact LeO.none _ | refine LeO.ite ?_ ?_ | refine LeO.bind ?_ (fun _ => ?_)) | exact ih0 _ _ | exact ih1 _ _ _ | exact ih2 _ _ _ _ _ | exact spec_l7Segments.mono _ _ | exact LeO.none _ | refine LeO.ite ?_ ?_ | refine LeO.bind ?_ (fun _ => ?_)
  ·intro y0 y1 y2 y3 y4
   unfold spec_IsRing.j2
   repeat' first | (with_reducible first | exact ih0 _ _ | exact ih1 _ _ _ | exact ih2 _ _ _ _ _ | exact spec_l7Segments.mono _ _ | exact LeO.refl _ | exact LeO.none _ | refine LeO.ite ?_ ?_ | refine LeO.bind ?_ (fun _ => ?_)) | exact ih0 _ _ | exact ih1 _ _ _ | exact ih2 _ _ _ _ _ | exact spec_l7Segments.mono _ _ | exact LeO.none _ | refine LeO.ite ?_ ?_ | refine LeO.bind ?_ (fun _ => ?_)
theorem spec_IsRing.mono : ∀ a0 k, LeO (spec_IsRing.f k a0) (spec_IsRing.f (k + 1) a0) := by
 intro a0 k; obtain ⟨ih0, ih1, ih2⟩ := spec_IsRing.mono_l k
 unfold spec_IsRing.f
 repeat' first | (with_reducible first | exact ih0 _ _ | exact ih1 _ _ _ | exact ih2 _ _ _ _ _ | exact spec_l7Segments.mono _ _ | exact LeO.refl _ | exact LeO.none _ | refine LeO.ite ?_ ?_ | refine LeO.bind ?_ (fun _ => ?_)) | exact ih0 _ _ | exact ih1 _ _ _ | exact ih2 _ _ _ _ _ | exact spec_l7Segments.mono _ _ | exact LeO.none _ | refine LeO.ite ?_ ?_ | refine LeO.bind ?_ (fun _ => ?_)
def spec_IsRing.T15 : Bool × List (List Nat × List Nat) := (true, [([], []), ([], []), ([0, 1], [0, 1]), ([2], [2]), ([], []), ([], []), ([4, 5], [4, 5]), ([6], [6]), ([3, 7], [3, 7]), ([], []), ([8, 9], [8, 9])])
def spec_IsRing.B15 : List Nat := [0, 0, 3, 7, 0, 0, 48, 112, 255, 0, 1023]
theorem spec_IsRing.tab15 : rtab .any (opsOf Try.f109 15) = spec_IsRing.T15 := by kernel_rfl
theorem spec_IsRing.bits15 : waitsOk spec_IsRing.T15.2 spec_IsRing.B15 = true := by kernel_rfl
set_option maxHeartbeats 8000000 in
set_option maxRecDepth 100000 in
theorem spec_IsRing.calls (k : Nat) (A0 : Option Addr) (c0 : Nat) (l0 : List (S82)) (r : Bool) (w : World) (hr0 : Kd.C k82 w A0 l0.length l0) (hc0 : l0.length ≤ c0) (h : spec_IsRing.f k l0 = some r) :
  Calls Try.prog 109 #[.slice A0 l0.length c0] w fun e w' => e = .returned (.bool r) ∧ Below w.heap.size w w' := by
 have hu85 := Try.underlying85; have HR0 := Aside0.mk hr0; have HC0 := Aside0.mk hc0; clear hr0 hc0; have HB := Aside0.mk (Below.refl w.heap.size w); have H : ((spec_l1In.f (l0.length : Int) 3 10).bind fun t175 => (if t175 = true then ((spec_l7Segments.f k l0).bind fun t176 => (spec_IsRing.l0 k t176 0)) else (some false))) = some r := h; clear h; replace H := Option.bind_eq_some_iff.mp H; obtain ⟨t175, A20, H⟩ := H; have A2 := Aside0.mk A20; clear A20
 by_cases c3 : t175 = true
 ·subst c3; replace H := ift H; replace H := Option.bind_eq_some_iff.mp H; obtain ⟨t176, A40, H⟩ := H; have A4 := Aside0.mk A40; clear A40; have H' := Aside0.mk H; clear H
  go_enter Try.func109, Try.ntmps109; go_wp2_with (first | ((with_reducible refine gt (some 9) rfl ?_); refine gc Try.func71 (spec_l1In.calls (l0.length : Int) 3 10 true _ A2.out) ?_; rintro e w' ⟨rfl, ⟨nd, rfl⟩⟩; refine ⟨_, rfl, ?_⟩) | ((with_reducible refine gt (some 12) rfl ?_); refine gc Try.func147 (spec_l7Segments.calls k _ _ l0 t176 _ (cz HR0.out) HC0.out A4.out) ?_; rintro e w5 ⟨v177, rfl, ho0, hb⟩; refine ⟨_, rfl, ?_⟩; have HO178 := Aside0.mk (Kd.R_lower ho0 (below_size bz)); replace HB := Aside0.mk (below_step bz hb); (try clear hb); (try clear ho0)))
  go_loopg [4] k (fun kq v4 w' => ∃ (x4_1 : Int), v4 = .int .i64 x4_1 ∧ Aside0 (spec_IsRing.l0 kq t176 x4_1 = some r) ∧ Aside0 (kq ≤ k) ∧ Aside0 (Kd.R k85 85 w' w.heap.size (fun _ => True) v177 t176) ∧ Aside0 (Below w.heap.size w w'))
  case atStart => exact ⟨(0), rz, H', ⟨Nat.le_refl _⟩, ⟨hr HO178.out⟩, ⟨bz⟩⟩
  case round =>
   clear H'; (try clear c1); (try clear p2); (try clear c3); obtain ⟨x4_1, rfl, HA, HK1, HO_3, HB⟩ := hrel
   cases gk with
   | zero => exact absurd HA.out (by simp [spec_IsRing.l0])
   | succ k1 =>
    have H := HA.out; clear HA; simp only [spec_IsRing.l0] at H
    by_cases c6 : x4_1 < (t176.length : Int)
    ·rw [if_pos c6] at H; have c6b0 := decide_eq_true c6; clear c6
     by_cases c7 : 0 ≤ x4_1
     ·rw [if_pos c7] at H; have c7b0 := decide_eq_true c7; clear c7; replace H := Option.bind_eq_some_iff.mp H; obtain ⟨t180, A80, H⟩ := H; have A8 := Aside0.mk A80; clear A80
      by_cases c9 : t180 = true
      ·subst c9; replace H := ift H; have H' := Aside0.mk H; clear H; obtain ⟨Ao10, co10, eo10⟩ := Kd.R_slice HO_3.out; subst eo10; have p179 : 0 ≤ (x4_1 : Int) := of_decide_eq_true az; have q179 : x4_1 < (t176.length : Int) := of_decide_eq_true az; obtain ⟨ad179, e179, hx179_0, hx179_1, hx179_2, hx179_3⟩ := at_T85 (Kd.R_reads' HO_3.out).2.2 x4_1 p179 q179
       cases e179
       replace p179 := eq_true p179; replace q179 := eq_true q179; go_wp2_with (first | ((with_reducible refine gt (some 23) rfl ?_); refine gc Try.func148 (spec_IsSegment.calls ((rd_T85 t176 x4_1).f0.f0) ((rd_T85 t176 x4_1).f0.f1) ((rd_T85 t176 x4_1).f1.f0) ((rd_T85 t176 x4_1).f1.f1) true _ A8.out) ?_; rintro e w11 ⟨rfl, hb⟩; refine ⟨_, rfl, ?_⟩; replace HO_3 := Aside0.mk (rbz HO_3 hb); replace HB := Aside0.mk (below_step bz hb); (try clear hb)))
       go_loopg [5] k1 (fun kq v5 w' => ∃ (x5_2 : Int), v5 = .int .i64 x5_2 ∧ Aside0 (spec_IsRing.l1 kq t176 x4_1 x5_2 = some r) ∧ Aside0 (kq ≤ k1) ∧ Aside0 (Kd.R k85 85 w' w.heap.size (fun _ => True) (.slice (some ad179) t176.length co10) t176) ∧ Aside0 (Below w.heap.size w w'))
       case atStart => exact ⟨(0), rz, H', ⟨Nat.le_refl _⟩, ⟨hr HO_3.out⟩, ⟨bz⟩⟩
       case round =>
        clear H'; (try clear c1); (try clear p1); (try clear q1); (try clear hx1); (try clear p2); (try clear c3); (try clear c6); (try clear c6b0); (try clear c7); (try clear c7b0); (try clear c9); (try clear c10); (try clear hx179_0); (try clear hx179_1); (try clear hx179_2); (try clear hx179_3); (try clear p179); (try clear p2); (try clear q179); obtain ⟨x5_2, rfl, HA, HK2, HO_3, HB⟩ := hrel
        cases gk with
        | zero => exact absurd HA.out (by simp [spec_IsRing.l1])
        | succ k2 =>
         have H := HA.out; clear HA; simp only [spec_IsRing.l1] at H
         by_cases c12 : x5_2 < x4_1
         ·rw [if_pos c12] at H; have c12b0 := decide_eq_true c12; clear c12; have HC13 := Aside0.mk H; clear H
          go_upto_region 13 with (fail)
          go_cut [44] (fun v44 wc => ∃ (kq : Nat) (x44_12 : Bool), v44 = .bool x44_12 ∧ Aside0 (spec_IsRing.j2 kq t176 x4_1 x5_2 0 x44_12 = some r) ∧ Aside0 (kq ≤ k2) ∧ Aside0 (Kd.R k85 85 wc w.heap.size (fun _ => True) (.slice (some ad179) t176.length co10) t176) ∧ Aside0 (Below w.heap.size w wc))
          case first =>
           have H := HC13.out; clear HC13
           by_cases c14 : (wrap64 (x5_2 + 1)) = x4_1
           ·rw [if_pos c14] at H; have c14b0 : ((wrap64 (x5_2 + 1)) == x4_1) = true := beq_iff_eq.mpr c14; have c14b1 : ((wrap64 (x5_2 + 1)) != x4_1) = false := bne_eq_false_iff_eq.mpr c14; clear c14
            (first | rw [c14b0] | (simp only [i64_w, i32_w]; rw [c14b0]) | skip)
            have H' := Aside0.mk H; clear H; go_wp2
            go_meet
            case rel => exact ⟨_, (true), rz, H', ⟨by have := HK1.out; have := HK2.out; first | omega | exact Nat.le_refl _⟩, ⟨hr HO_3.out⟩, ⟨bz⟩⟩
           ·rw [if_neg c14] at H; have c14b0 : ((wrap64 (x5_2 + 1)) == x4_1) = false := beq_eq_false_iff_ne.mpr c14; have c14b1 : ((wrap64 (x5_2 + 1)) != x4_1) = true := bne_iff_ne.mpr c14
            (first | rw [c14b0] | (simp only [i64_w, i32_w]; rw [c14b0]) | skip)
            by_cases c15 : x5_2 = 0
            ·rw [if_pos c15] at H; have c15b0 : (x5_2 == 0) = true := beq_iff_eq.mpr c15; have c15b1 : (x5_2 != 0) = false := bne_eq_false_iff_eq.mpr c15; clear c15; have H' := Aside0.mk H; clear H; go_wp2
             go_meet
             case rel => exact ⟨_, (((wrap64 (x4_1 + 1)) == (t176.length : Int))), rz, H', ⟨by have := HK1.out; have := HK2.out; first | omega | exact Nat.le_refl _⟩, ⟨hr HO_3.out⟩, ⟨bz⟩⟩
            ·rw [if_neg c15] at H; have c15b0 : (x5_2 == 0) = false := beq_eq_false_iff_ne.mpr c15; have c15b1 : (x5_2 != 0) = true := bne_iff_ne.mpr c15; have H' := Aside0.mk H; clear H; go_wp2
             go_meet
             case rel => exact ⟨_, (false), rz, H', ⟨by have := HK1.out; have := HK2.out; first | omega | exact Nat.le_refl _⟩, ⟨hr HO_3.out⟩, ⟨bz⟩⟩
          case rest =>
           clear HC13; (try clear c1); (try clear p1); (try clear q1); (try clear hx1); (try clear p2); (try clear c3); (try clear c6); (try clear c6b0); (try clear p6); (try clear c7); (try clear c7b0); (try clear c9); (try clear c10); (try clear c12); (try clear c12b0); (try clear c14); (try clear c14b0); (try clear c14b1); (try clear c15); (try clear c15b0); (try clear c15b1); (try clear hx179_0); (try clear hx179_1); (try clear hx179_2); (try clear hx179_3); (try clear p1); (try clear p179); (try clear p2); (try clear q1); (try clear q179); obtain ⟨kq, x44_12, rfl, HA, HJ12, HO_3, HB⟩ := hcut
           cases kq with
           | zero => exact absurd HA.out (by simp [spec_IsRing.j2])
           | succ kj12 =>
            have H := HA.out; clear HA; simp only [spec_IsRing.j2] at H
            by_cases c16 : x44_12 = true
            ·subst c16; replace H := ift H
             by_cases c17 : 0 ≤ x4_1
             ·rw [if_pos c17] at H; have c17b0 := decide_eq_true c17; clear c17
              by_cases c18 : x4_1 < (t176.length : Int)
              ·rw [if_pos c18] at H; have c18b0 := decide_eq_true c18; clear c18
               by_cases c19 : 0 ≤ x5_2
               ·rw [if_pos c19] at H; have c19b0 := decide_eq_true c19; clear c19
                by_cases c20 : x5_2 < (t176.length : Int)
                ·rw [if_pos c20] at H; have c20b0 := decide_eq_true c20; clear c20; replace H := Option.bind_eq_some_iff.mp H; obtain ⟨t183, A210, H⟩ := H; have A21 := Aside0.mk A210; clear A210
                 by_cases c22 : t183 = 1
                 ·rw [if_pos c22] at H; have c22b0 : (t183 == 1) = true := beq_iff_eq.mpr c22; have c22b1 : (t183 != 1) = false := bne_eq_false_iff_eq.mpr c22; clear c22; have H' := Aside0.mk H; clear H; (try go_wp2); replace HO_3 := Aside0.mk (Kd.R_drew HO_3.out); replace HB := Aside0.mk (below_drew1 HB.out); have p181 : 0 ≤ (x4_1 : Int) := of_decide_eq_true az; have q181 : x4_1 < (t176.length : Int) := of_decide_eq_true az; obtain ⟨ad181, e181, hx181_0, hx181_1, hx181_2, hx181_3⟩ := at_T85 (Kd.R_reads' HO_3.out).2.2 x4_1 p181 q181; obtain rfl : ad179 = ad181 := (by injection e181)
                  replace p181 := eq_true p181; replace q181 := eq_true q181; have p182 : 0 ≤ (x5_2 : Int) := of_decide_eq_true az; have q182 : x5_2 < (t176.length : Int) := of_decide_eq_true az; obtain ⟨ad182, e182, hx182_0, hx182_1, hx182_2, hx182_3⟩ := at_T85 (Kd.R_reads' HO_3.out).2.2 x5_2 p182 q182; obtain rfl : ad179 = ad182 := (by injection e182)
                  replace p182 := eq_true p182; replace q182 := eq_true q182; refine start_ (n := 11) (S := fun w' => w'.cell? (ad179.add ((x4_1).toNat * 4)) = some (.int .i64 ((rd_T85 t176 x4_1).f0.f0)) ∧ w'.cell? ⟨(ad179.add ((x4_1).toNat * 4)).block, (ad179.add ((x4_1).toNat * 4)).off + 1, none⟩ = some (.int .i64 ((rd_T85 t176 x4_1).f0.f1)) ∧ w'.cell? ⟨(ad179.add ((x4_1).toNat * 4)).block, (ad179.add ((x4_1).toNat * 4)).off + 2, none⟩ = some (.int .i64 ((rd_T85 t176 x4_1).f1.f0)) ∧ w'.cell? ⟨(ad179.add ((x4_1).toNat * 4)).block, (ad179.add ((x4_1).toNat * 4)).off + 3, none⟩ = some (.int .i64 ((rd_T85 t176 x4_1).f1.f1)) ∧ w'.cell? (ad179.add ((x5_2).toNat * 4)) = some (.int .i64 ((rd_T85 t176 x5_2).f0.f0)) ∧ w'.cell? ⟨(ad179.add ((x5_2).toNat * 4)).block, (ad179.add ((x5_2).toNat * 4)).off + 1, none⟩ = some (.int .i64 ((rd_T85 t176 x5_2).f0.f1)) ∧ w'.cell? ⟨(ad179.add ((x5_2).toNat * 4)).block, (ad179.add ((x5_2).toNat * 4)).off + 2, none⟩ = some (.int .i64 ((rd_T85 t176 x5_2).f1.f0)) ∧ w'.cell? ⟨(ad179.add ((x5_2).toNat * 4)).block, (ad179.add ((x5_2).toNat * 4)).off + 3, none⟩ = some (.int .i64 ((rd_T85 t176 x5_2).f1.f1))) (ds := []) #[F,F,F,F,F,F,F,F,F,F,F] (by kernel_rfl) rfl rfl ⟨hx181_0, hx181_1, hx181_2, hx181_3, hx182_0, hx182_1, hx182_2, hx182_3⟩ (fun hHeld => ?_); refine with_tabW spec_IsRing.tab15 spec_IsRing.bits15 (fun HT_ HW_ => ?_); generalize wc.drew = w23 at HO_3 HB hx181_0 hx181_1 hx181_2 hx181_3 hx182_0 hx182_1 hx182_2 hx182_3 hHeld ⊢; refine pz HT_ 0 45 ?_; refine pz HT_ 1 46 ?_; refine pz HT_ 2 47 ?_; refine pz HT_ 4 49 ?_; refine pz HT_ 5 50 ?_; refine pz HT_ 6 51 ?_; refine pz HT_ 9 54 ?_; refine tz8 HT_ HW_ hHeld 3 48 ?_; refine tz8 HT_ HW_ hHeld 7 52 ?_
                  refine oz HT_ 8 (some 53) (fun K hK => ?_); refine gz Try.func145 #[.agg #[.int .i64 ((rd_T85 t176 x4_1).f0.f0), .int .i64 ((rd_T85 t176 x4_1).f0.f1), .int .i64 ((rd_T85 t176 x4_1).f1.f0), .int .i64 ((rd_T85 t176 x4_1).f1.f1)], .agg #[.int .i64 ((rd_T85 t176 x5_2).f0.f0), .int .i64 ((rd_T85 t176 x5_2).f0.f1), .int .i64 ((rd_T85 t176 x5_2).f1.f0), .int .i64 ((rd_T85 t176 x5_2).f1.f1)]] ?_
                  with_reducible refine (spec_HowMeet.calls ((rd_T85 t176 x4_1).f0.f0) ((rd_T85 t176 x4_1).f0.f1) ((rd_T85 t176 x4_1).f1.f0) ((rd_T85 t176 x4_1).f1.f1) ((rd_T85 t176 x5_2).f0.f0) ((rd_T85 t176 x5_2).f0.f1) ((rd_T85 t176 x5_2).f1.f0) ((rd_T85 t176 x5_2).f1.f1) t183 _ A21.out).mono ?_
                  rintro e w24 ⟨rfl, hb⟩; have HS0_ := yz hb hHeld.1; have HS1_ := yz hb hHeld.2.1; have HS2_ := yz hb hHeld.2.2.1; have HS3_ := yz hb hHeld.2.2.2.1; have HS4_ := yz hb hHeld.2.2.2.2.1; have HS5_ := yz hb hHeld.2.2.2.2.2.1; have HS6_ := yz hb hHeld.2.2.2.2.2.2.1; have HS7_ := yz hb hHeld.2.2.2.2.2.2.2; refine ⟨_, rfl, ?_⟩; replace HO_3 := Aside0.mk (rbz HO_3 hb); replace HB := Aside0.mk (below_step bz hb); (try clear hb); (try clear hb2); (try clear hk); (try clear hi); refine hK.out _ _ ⟨HS0_, HS1_, HS2_, HS3_, HS4_, HS5_, HS6_, HS7_⟩ (fun hHeld => ?_); clear hK K; refine nz 53 ?_; refine pz HT_ 10 55 ?_; refine dz HT_ ?_; (try go_wp2)
                  go_roundg kj12
                  case measure => have := HK1.out; have := HK2.out; have := HJ12.out; omega
                  case rel => exact ⟨(wrap64 (x5_2 + 1)), rz, H', ⟨by have := HK1.out; have := HK2.out; have := HJ12.out; omega⟩, ⟨hr HO_3.out⟩, ⟨bz⟩⟩
                 ·rw [if_neg c22] at H; have c22b0 : (t183 == 1) = false := beq_eq_false_iff_ne.mpr c22; have c22b1 : (t183 != 1) = true := bne_iff_ne.mpr c22; obtain rfl := Option.some.inj H; (try go_wp2); replace HO_3 := Aside0.mk (Kd.R_drew HO_3.out); replace HB := Aside0.mk (below_drew1 HB.out); have p181 : 0 ≤ (x4_1 : Int) := of_decide_eq_true az; have q181 : x4_1 < (t176.length : Int) := of_decide_eq_true az; obtain ⟨ad181, e181, hx181_0, hx181_1, hx181_2, hx181_3⟩ := at_T85 (Kd.R_reads' HO_3.out).2.2 x4_1 p181 q181; obtain rfl : ad179 = ad181 := (by injection e181)
                  replace p181 := eq_true p181; replace q181 := eq_true q181; have p182 : 0 ≤ (x5_2 : Int) := of_decide_eq_true az; have q182 : x5_2 < (t176.length : Int) := of_decide_eq_true az; obtain ⟨ad182, e182, hx182_0, hx182_1, hx182_2, hx182_3⟩ := at_T85 (Kd.R_reads' HO_3.out).2.2 x5_2 p182 q182; obtain rfl : ad179 = ad182 := (by injection e182)
                  replace p182 := eq_true p182; replace q182 := eq_true q182; refine start_ (n := 11) (S := fun w' => w'.cell? (ad179.add ((x4_1).toNat * 4)) = some (.int .i64 ((rd_T85 t176 x4_1).f0.f0)) ∧ w'.cell? ⟨(ad179.add ((x4_1).toNat * 4)).block, (ad179.add ((x4_1).toNat * 4)).off + 1, none⟩ = some (.int .i64 ((rd_T85 t176 x4_1).f0.f1)) ∧ w'.cell? ⟨(ad179.add ((x4_1).toNat * 4)).block, (ad179.add ((x4_1).toNat * 4)).off + 2, none⟩ = some (.int .i64 ((rd_T85 t176 x4_1).f1.f0)) ∧ w'.cell? ⟨(ad179.add ((x4_1).toNat * 4)).block, (ad179.add ((x4_1).toNat * 4)).off + 3, none⟩ = some (.int .i64 ((rd_T85 t176 x4_1).f1.f1)) ∧ w'.cell? (ad179.add ((x5_2).toNat * 4)) = some (.int .i64 ((rd_T85 t176 x5_2).f0.f0)) ∧ w'.cell? ⟨(ad179.add ((x5_2).toNat * 4)).block, (ad179.add ((x5_2).toNat * 4)).off + 1, none⟩ = some (.int .i64 ((rd_T85 t176 x5_2).f0.f1)) ∧ w'.cell? ⟨(ad179.add ((x5_2).toNat * 4)).block, (ad179.add ((x5_2).toNat * 4)).off + 2, none⟩ = some (.int .i64 ((rd_T85 t176 x5_2).f1.f0)) ∧ w'.cell? ⟨(ad179.add ((x5_2).toNat * 4)).block, (ad179.add ((x5_2).toNat * 4)).off + 3, none⟩ = some (.int .i64 ((rd_T85 t176 x5_2).f1.f1))) (ds := []) #[F,F,F,F,F,F,F,F,F,F,F] (by kernel_rfl) rfl rfl ⟨hx181_0, hx181_1, hx181_2, hx181_3, hx182_0, hx182_1, hx182_2, hx182_3⟩ (fun hHeld => ?_); refine with_tabW spec_IsRing.tab15 spec_IsRing.bits15 (fun HT_ HW_ => ?_); generalize wc.drew = w25 at HO_3 HB hx181_0 hx181_1 hx181_2 hx181_3 hx182_0 hx182_1 hx182_2 hx182_3 hHeld ⊢; refine pz HT_ 0 45 ?_; refine pz HT_ 1 46 ?_; refine pz HT_ 2 47 ?_; refine pz HT_ 4 49 ?_; refine pz HT_ 5 50 ?_; refine pz HT_ 6 51 ?_; refine pz HT_ 9 54 ?_; refine tz8 HT_ HW_ hHeld 3 48 ?_; refine tz8 HT_ HW_ hHeld 7 52 ?_
                  refine oz HT_ 8 (some 53) (fun K hK => ?_); refine gz Try.func145 #[.agg #[.int .i64 ((rd_T85 t176 x4_1).f0.f0), .int .i64 ((rd_T85 t176 x4_1).f0.f1), .int .i64 ((rd_T85 t176 x4_1).f1.f0), .int .i64 ((rd_T85 t176 x4_1).f1.f1)], .agg #[.int .i64 ((rd_T85 t176 x5_2).f0.f0), .int .i64 ((rd_T85 t176 x5_2).f0.f1), .int .i64 ((rd_T85 t176 x5_2).f1.f0), .int .i64 ((rd_T85 t176 x5_2).f1.f1)]] ?_
                  with_reducible refine (spec_HowMeet.calls ((rd_T85 t176 x4_1).f0.f0) ((rd_T85 t176 x4_1).f0.f1) ((rd_T85 t176 x4_1).f1.f0) ((rd_T85 t176 x4_1).f1.f1) ((rd_T85 t176 x5_2).f0.f0) ((rd_T85 t176 x5_2).f0.f1) ((rd_T85 t176 x5_2).f1.f0) ((rd_T85 t176 x5_2).f1.f1) t183 _ A21.out).mono ?_
                  rintro e w26 ⟨rfl, hb⟩; have HS0_ := yz hb hHeld.1; have HS1_ := yz hb hHeld.2.1; have HS2_ := yz hb hHeld.2.2.1; have HS3_ := yz hb hHeld.2.2.2.1; have HS4_ := yz hb hHeld.2.2.2.2.1; have HS5_ := yz hb hHeld.2.2.2.2.2.1; have HS6_ := yz hb hHeld.2.2.2.2.2.2.1; have HS7_ := yz hb hHeld.2.2.2.2.2.2.2; refine ⟨_, rfl, ?_⟩; replace HO_3 := Aside0.mk (rbz HO_3 hb); replace HB := Aside0.mk (below_step bz hb); (try clear hb); (try clear hb2); (try clear hk); (try clear hi); refine hK.out _ _ ⟨HS0_, HS1_, HS2_, HS3_, HS4_, HS5_, HS6_, HS7_⟩ (fun hHeld => ?_); clear hK K; refine nz 53 ?_; refine pz HT_ 10 55 ?_; refine dz HT_ ?_; (try go_wp2); go_ret
                  exact ⟨ez, bz⟩
                ·rw [if_neg c20] at H
                 exact absurd H (by simp)
               ·rw [if_neg c19] at H
                exact absurd H (by simp)
              ·rw [if_neg c18] at H
               exact absurd H (by simp)
             ·rw [if_neg c17] at H
              exact absurd H (by simp)
            ·replace c16 := Bool.eq_false_iff.mpr c16; subst c16; replace H := iff_ H
             by_cases c27 : 0 ≤ x4_1
             ·rw [if_pos c27] at H; have c27b0 := decide_eq_true c27; clear c27
              by_cases c28 : x4_1 < (t176.length : Int)
              ·rw [if_pos c28] at H; have c28b0 := decide_eq_true c28; clear c28
               by_cases c29 : 0 ≤ x5_2
               ·rw [if_pos c29] at H; have c29b0 := decide_eq_true c29; clear c29
                by_cases c30 : x5_2 < (t176.length : Int)
                ·rw [if_pos c30] at H; have c30b0 := decide_eq_true c30; clear c30; replace H := Option.bind_eq_some_iff.mp H; obtain ⟨t186, A310, H⟩ := H; have A31 := Aside0.mk A310; clear A310
                 by_cases c32 : t186 = 0
                 ·rw [if_pos c32] at H; have c32b0 : (t186 == 0) = true := beq_iff_eq.mpr c32; have c32b1 : (t186 != 0) = false := bne_eq_false_iff_eq.mpr c32; clear c32; have H' := Aside0.mk H; clear H; (try go_wp2); replace HO_3 := Aside0.mk (Kd.R_drew HO_3.out); replace HB := Aside0.mk (below_drew1 HB.out); have p184 : 0 ≤ (x4_1 : Int) := of_decide_eq_true az; have q184 : x4_1 < (t176.length : Int) := of_decide_eq_true az; obtain ⟨ad184, e184, hx184_0, hx184_1, hx184_2, hx184_3⟩ := at_T85 (Kd.R_reads' HO_3.out).2.2 x4_1 p184 q184; obtain rfl : ad179 = ad184 := (by injection e184)
                  replace p184 := eq_true p184; replace q184 := eq_true q184; have p185 : 0 ≤ (x5_2 : Int) := of_decide_eq_true az; have q185 : x5_2 < (t176.length : Int) := of_decide_eq_true az; obtain ⟨ad185, e185, hx185_0, hx185_1, hx185_2, hx185_3⟩ := at_T85 (Kd.R_reads' HO_3.out).2.2 x5_2 p185 q185; obtain rfl : ad179 = ad185 := (by injection e185)
                  replace p185 := eq_true p185; replace q185 := eq_true q185; refine start_ (n := 11) (S := fun w' => w'.cell? (ad179.add ((x4_1).toNat * 4)) = some (.int .i64 ((rd_T85 t176 x4_1).f0.f0)) ∧ w'.cell? ⟨(ad179.add ((x4_1).toNat * 4)).block, (ad179.add ((x4_1).toNat * 4)).off + 1, none⟩ = some (.int .i64 ((rd_T85 t176 x4_1).f0.f1)) ∧ w'.cell? ⟨(ad179.add ((x4_1).toNat * 4)).block, (ad179.add ((x4_1).toNat * 4)).off + 2, none⟩ = some (.int .i64 ((rd_T85 t176 x4_1).f1.f0)) ∧ w'.cell? ⟨(ad179.add ((x4_1).toNat * 4)).block, (ad179.add ((x4_1).toNat * 4)).off + 3, none⟩ = some (.int .i64 ((rd_T85 t176 x4_1).f1.f1)) ∧ w'.cell? (ad179.add ((x5_2).toNat * 4)) = some (.int .i64 ((rd_T85 t176 x5_2).f0.f0)) ∧ w'.cell? ⟨(ad179.add ((x5_2).toNat * 4)).block, (ad179.add ((x5_2).toNat * 4)).off + 1, none⟩ = some (.int .i64 ((rd_T85 t176 x5_2).f0.f1)) ∧ w'.cell? ⟨(ad179.add ((x5_2).toNat * 4)).block, (ad179.add ((x5_2).toNat * 4)).off + 2, none⟩ = some (.int .i64 ((rd_T85 t176 x5_2).f1.f0)) ∧ w'.cell? ⟨(ad179.add ((x5_2).toNat * 4)).block, (ad179.add ((x5_2).toNat * 4)).off + 3, none⟩ = some (.int .i64 ((rd_T85 t176 x5_2).f1.f1))) (ds := []) #[F,F,F,F,F,F,F,F,F,F,F] (by kernel_rfl) rfl rfl ⟨hx184_0, hx184_1, hx184_2, hx184_3, hx185_0, hx185_1, hx185_2, hx185_3⟩ (fun hHeld => ?_); refine with_tabW spec_IsRing.tab15 spec_IsRing.bits15 (fun HT_ HW_ => ?_); generalize wc.drew = w33 at HO_3 HB hx184_0 hx184_1 hx184_2 hx184_3 hx185_0 hx185_1 hx185_2 hx185_3 hHeld ⊢; refine pz HT_ 0 45 ?_; refine pz HT_ 1 46 ?_; refine pz HT_ 2 47 ?_; refine pz HT_ 4 49 ?_; refine pz HT_ 5 50 ?_; refine pz HT_ 6 51 ?_; refine pz HT_ 9 54 ?_; refine tz8 HT_ HW_ hHeld 3 48 ?_; refine tz8 HT_ HW_ hHeld 7 52 ?_
                  refine oz HT_ 8 (some 53) (fun K hK => ?_); refine gz Try.func145 #[.agg #[.int .i64 ((rd_T85 t176 x4_1).f0.f0), .int .i64 ((rd_T85 t176 x4_1).f0.f1), .int .i64 ((rd_T85 t176 x4_1).f1.f0), .int .i64 ((rd_T85 t176 x4_1).f1.f1)], .agg #[.int .i64 ((rd_T85 t176 x5_2).f0.f0), .int .i64 ((rd_T85 t176 x5_2).f0.f1), .int .i64 ((rd_T85 t176 x5_2).f1.f0), .int .i64 ((rd_T85 t176 x5_2).f1.f1)]] ?_
                  with_reducible refine (spec_HowMeet.calls ((rd_T85 t176 x4_1).f0.f0) ((rd_T85 t176 x4_1).f0.f1) ((rd_T85 t176 x4_1).f1.f0) ((rd_T85 t176 x4_1).f1.f1) ((rd_T85 t176 x5_2).f0.f0) ((rd_T85 t176 x5_2).f0.f1) ((rd_T85 t176 x5_2).f1.f0) ((rd_T85 t176 x5_2).f1.f1) t186 _ A31.out).mono ?_
                  rintro e w34 ⟨rfl, hb⟩; have HS0_ := yz hb hHeld.1; have HS1_ := yz hb hHeld.2.1; have HS2_ := yz hb hHeld.2.2.1; have HS3_ := yz hb hHeld.2.2.2.1; have HS4_ := yz hb hHeld.2.2.2.2.1; have HS5_ := yz hb hHeld.2.2.2.2.2.1; have HS6_ := yz hb hHeld.2.2.2.2.2.2.1; have HS7_ := yz hb hHeld.2.2.2.2.2.2.2; refine ⟨_, rfl, ?_⟩; replace HO_3 := Aside0.mk (rbz HO_3 hb); replace HB := Aside0.mk (below_step bz hb); (try clear hb); (try clear hb2); (try clear hk); (try clear hi); refine hK.out _ _ ⟨HS0_, HS1_, HS2_, HS3_, HS4_, HS5_, HS6_, HS7_⟩ (fun hHeld => ?_); clear hK K; refine nz 53 ?_; refine pz HT_ 10 55 ?_; refine dz HT_ ?_; (try go_wp2)
                  go_roundg kj12
                  case measure => have := HK1.out; have := HK2.out; have := HJ12.out; omega
                  case rel => exact ⟨(wrap64 (x5_2 + 1)), rz, H', ⟨by have := HK1.out; have := HK2.out; have := HJ12.out; omega⟩, ⟨hr HO_3.out⟩, ⟨bz⟩⟩
                 ·rw [if_neg c32] at H; have c32b0 : (t186 == 0) = false := beq_eq_false_iff_ne.mpr c32; have c32b1 : (t186 != 0) = true := bne_iff_ne.mpr c32; obtain rfl := Option.some.inj H; (try go_wp2); replace HO_3 := Aside0.mk (Kd.R_drew HO_3.out); replace HB := Aside0.mk (below_drew1 HB.out); have p184 : 0 ≤ (x4_1 : Int) := of_decide_eq_true az; have q184 : x4_1 < (t176.length : Int) := of_decide_eq_true az; obtain ⟨ad184, e184, hx184_0, hx184_1, hx184_2, hx184_3⟩ := at_T85 (Kd.R_reads' HO_3.out).2.2 x4_1 p184 q184; obtain rfl : ad179 = ad184 := (by injection e184)
                  replace p184 := eq_true p184; replace q184 := eq_true q184; have p185 : 0 ≤ (x5_2 : Int) := of_decide_eq_true az; have q185 : x5_2 < (t176.length : Int) := of_decide_eq_true az; obtain ⟨ad185, e185, hx185_0, hx185_1, hx185_2, hx185_3⟩ := at_T85 (Kd.R_reads' HO_3.out).2.2 x5_2 p185 q185; obtain rfl : ad179 = ad185 := (by injection e185)
                  replace p185 := eq_true p185; replace q185 := eq_true q185; refine start_ (n := 11) (S := fun w' => w'.cell? (ad179.add ((x4_1).toNat * 4)) = some (.int .i64 ((rd_T85 t176 x4_1).f0.f0)) ∧ w'.cell? ⟨(ad179.add ((x4_1).toNat * 4)).block, (ad179.add ((x4_1).toNat * 4)).off + 1, none⟩ = some (.int .i64 ((rd_T85 t176 x4_1).f0.f1)) ∧ w'.cell? ⟨(ad179.add ((x4_1).toNat * 4)).block, (ad179.add ((x4_1).toNat * 4)).off + 2, none⟩ = some (.int .i64 ((rd_T85 t176 x4_1).f1.f0)) ∧ w'.cell? ⟨(ad179.add ((x4_1).toNat * 4)).block, (ad179.add ((x4_1).toNat * 4)).off + 3, none⟩ = some (.int .i64 ((rd_T85 t176 x4_1).f1.f1)) ∧ w'.cell? (ad179.add ((x5_2).toNat * 4)) = some (.int .i64 ((rd_T85 t176 x5_2).f0.f0)) ∧ w'.cell? ⟨(ad179.add ((x5_2).toNat * 4)).block, (ad179.add ((x5_2).toNat * 4)).off + 1, none⟩ = some (.int .i64 ((rd_T85 t176 x5_2).f0.f1)) ∧ w'.cell? ⟨(ad179.add ((x5_2).toNat * 4)).block, (ad179.add ((x5_2).toNat * 4)).off + 2, none⟩ = some (.int .i64 ((rd_T85 t176 x5_2).f1.f0)) ∧ w'.cell? ⟨(ad179.add ((x5_2).toNat * 4)).block, (ad179.add ((x5_2).toNat * 4)).off + 3, none⟩ = some (.int .i64 ((rd_T85 t176 x5_2).f1.f1))) (ds := []) #[F,F,F,F,F,F,F,F,F,F,F] (by kernel_rfl) rfl rfl ⟨hx184_0, hx184_1, hx184_2, hx184_3, hx185_0, hx185_1, hx185_2, hx185_3⟩ (fun hHeld => ?_); refine with_tabW spec_IsRing.tab15 spec_IsRing.bits15 (fun HT_ HW_ => ?_); generalize wc.drew = w35 at HO_3 HB hx184_0 hx184_1 hx184_2 hx184_3 hx185_0 hx185_1 hx185_2 hx185_3 hHeld ⊢; refine pz HT_ 0 45 ?_; refine pz HT_ 1 46 ?_; refine pz HT_ 2 47 ?_; refine pz HT_ 4 49 ?_; refine pz HT_ 5 50 ?_; refine pz HT_ 6 51 ?_; refine pz HT_ 9 54 ?_; refine tz8 HT_ HW_ hHeld 3 48 ?_; refine tz8 HT_ HW_ hHeld 7 52 ?_
                  refine oz HT_ 8 (some 53) (fun K hK => ?_); refine gz Try.func145 #[.agg #[.int .i64 ((rd_T85 t176 x4_1).f0.f0), .int .i64 ((rd_T85 t176 x4_1).f0.f1), .int .i64 ((rd_T85 t176 x4_1).f1.f0), .int .i64 ((rd_T85 t176 x4_1).f1.f1)], .agg #[.int .i64 ((rd_T85 t176 x5_2).f0.f0), .int .i64 ((rd_T85 t176 x5_2).f0.f1), .int .i64 ((rd_T85 t176 x5_2).f1.f0), .int .i64 ((rd_T85 t176 x5_2).f1.f1)]] ?_
                  with_reducible refine (spec_HowMeet.calls ((rd_T85 t176 x4_1).f0.f0) ((rd_T85 t176 x4_1).f0.f1) ((rd_T85 t176 x4_1).f1.f0) ((rd_T85 t176 x4_1).f1.f1) ((rd_T85 t176 x5_2).f0.f0) ((rd_T85 t176 x5_2).f0.f1) ((rd_T85 t176 x5_2).f1.f0) ((rd_T85 t176 x5_2).f1.f1) t186 _ A31.out).mono ?_
                  rintro e w36 ⟨rfl, hb⟩; have HS0_ := yz hb hHeld.1; have HS1_ := yz hb hHeld.2.1; have HS2_ := yz hb hHeld.2.2.1; have HS3_ := yz hb hHeld.2.2.2.1; have HS4_ := yz hb hHeld.2.2.2.2.1; have HS5_ := yz hb hHeld.2.2.2.2.2.1; have HS6_ := yz hb hHeld.2.2.2.2.2.2.1; have HS7_ := yz hb hHeld.2.2.2.2.2.2.2; refine ⟨_, rfl, ?_⟩; replace HO_3 := Aside0.mk (rbz HO_3 hb); replace HB := Aside0.mk (below_step bz hb); (try clear hb); (try clear hb2); (try clear hk); (try clear hi); refine hK.out _ _ ⟨HS0_, HS1_, HS2_, HS3_, HS4_, HS5_, HS6_, HS7_⟩ (fun hHeld => ?_); clear hK K; refine nz 53 ?_; refine pz HT_ 10 55 ?_; refine dz HT_ ?_; (try go_wp2); go_ret
                  exact ⟨ez, bz⟩
                ·rw [if_neg c30] at H
                 exact absurd H (by simp)
               ·rw [if_neg c29] at H
                exact absurd H (by simp)
              ·rw [if_neg c28] at H
               exact absurd H (by simp)
             ·rw [if_neg c27] at H
              exact absurd H (by simp)
         ·rw [if_neg c12] at H; have c12b0 := decide_eq_false c12; clear c12; have H' := Aside0.mk H; clear H; go_wp2
          go_roundg k2
          case measure => have := HK1.out; have := HK2.out; omega
          case rel => exact ⟨(wrap64 (x4_1 + 1)), rz, H', ⟨by have := HK1.out; have := HK2.out; omega⟩, ⟨hr HO_3.out⟩, ⟨bz⟩⟩
      ·replace c9 := Bool.eq_false_iff.mpr c9; subst c9; replace H := iff_ H; obtain rfl := Option.some.inj H; obtain ⟨Ao37, co37, eo37⟩ := Kd.R_slice HO_3.out; subst eo37; have p179 : 0 ≤ (x4_1 : Int) := of_decide_eq_true az; have q179 : x4_1 < (t176.length : Int) := of_decide_eq_true az; obtain ⟨ad179, e179, hx179_0, hx179_1, hx179_2, hx179_3⟩ := at_T85 (Kd.R_reads' HO_3.out).2.2 x4_1 p179 q179
       cases e179
       replace p179 := eq_true p179; replace q179 := eq_true q179; go_wp2_with (first | ((with_reducible refine gt (some 23) rfl ?_); refine gc Try.func148 (spec_IsSegment.calls ((rd_T85 t176 x4_1).f0.f0) ((rd_T85 t176 x4_1).f0.f1) ((rd_T85 t176 x4_1).f1.f0) ((rd_T85 t176 x4_1).f1.f1) false _ A8.out) ?_; rintro e w38 ⟨rfl, hb⟩; refine ⟨_, rfl, ?_⟩; replace HO_3 := Aside0.mk (rbz HO_3 hb); replace HB := Aside0.mk (below_step bz hb); (try clear hb))); go_ret
       exact ⟨ez, bz⟩
     ·rw [if_neg c7] at H
      exact absurd H (by simp)
    ·rw [if_neg c6] at H; have c6b0 := decide_eq_false c6; clear c6; obtain rfl := Option.some.inj H; obtain ⟨Ao39, co39, eo39⟩ := Kd.R_slice HO_3.out; subst eo39; go_wp2; go_ret
     exact ⟨ez, bz⟩
 ·replace c3 := Bool.eq_false_iff.mpr c3; subst c3; replace H := iff_ H; obtain rfl := Option.some.inj H
  go_enter Try.func109, Try.ntmps109; go_wp2_with (first | ((with_reducible refine gt (some 9) rfl ?_); refine gc Try.func71 (spec_l1In.calls (l0.length : Int) 3 10 false _ A2.out) ?_; rintro e w' ⟨rfl, ⟨nd, rfl⟩⟩; refine ⟨_, rfl, ?_⟩)); go_ret
  exact ⟨ez, bz⟩

end Go.Proofs.Ytdfehjfmihokpaa.PFnExactAllPieces
