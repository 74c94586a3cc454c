-- Written by a program of this session's: the kit's print, turned (turnprint.py): functions, and that Go comes to just their answers.
import Derived.Test.YtdfehjfmihokpaaZ
import Derived.Test.YtdfehjfmihokpaaPFnExactAllPiecesx0
import Derived.Test.YtdfehjfmihokpaaPFnExactAllPiecesx1
import Derived.Test.YtdfehjfmihokpaaPFnExactAllPiecesx15
namespace Go.Proofs.Ytdfehjfmihokpaa.PFnExactAllPieces
open Go.RowKit Go.Proofs.YtdfehjfmihokpaaW.PrintWords Go.Proofs.YtdfehjfmihokpaaW.PrintLast Go.Proofs.YtdfehjfmihokpaaW.PrintMore Go.Proofs.YtdfehjfmihokpaaGeo Go.Proofs.YtdfehjfmihokpaaHand Go.Proofs.YtdfehjfmihokpaaMeet Go.Proofs.YtdfehjfmihokpaaQuiet Go.Proofs.YtdfehjfmihokpaaZ
attribute [local go_sem] max2_int min2_int max_two min_two max_three min_three max_four min_four   -- for this text's walks alone
set_option linter.unusedVariables false
set_option linter.unusedSimpArgs false

attribute [local go_sem high] eqA82
/-! ### impl_IsLine: function 111 -/
mutual
def impl_IsLine.j0 : Nat → List (S82) → Bool → Option (Bool)
 | 0, _, _ => none
 | k + 1, x0, x12 => if x12 = true then (some false) else (impl_IsLine.l0 k x0 x0 (x0.length : Int) 0)
def impl_IsLine.l0 : Nat → List (S82) → List (S82) → Int → Int → Option (Bool)
 | 0, _, _, _, _ => none
 | k + 1, x0, x13, x14, x15 => if x15 < x14 then (if 0 ≤ x15 then (if x15 < (x13.length : Int) then ((impl_IsPoint.f ((rd_T82 x13 x15).f0) ((rd_T82 x13 x15).f1)).bind fun t315 => (if t315 = true then (if x15 > 0 then (if 0 ≤ (wrap64 (x15 - 1)) then (if (wrap64 (x15 - 1)) < (x0.length : Int) then (if (((rd_T82 x13 x15).f0) == ((rd_T82 x0 (wrap64 (x15 - 1))).f0) && (((rd_T82 x13 x15).f1) == ((rd_T82 x0 (wrap64 (x15 - 1))).f1))) = true then (some false) else (impl_IsLine.l0 k x0 x13 x14 (wrap64 (x15 + 1)))) else (none)) else (none)) else (impl_IsLine.l0 k x0 x13 x14 (wrap64 (x15 + 1)))) else (some false))) else (none)) else (none)) else (some true)
end
def impl_IsLine.f (k : Nat) (l0 : List (S82)) : Option (Bool) := if (l0.length : Int) < 2 then (impl_IsLine.j0 k l0 true) else (impl_IsLine.j0 k l0 (decide ((l0.length : Int) > 10)))
theorem impl_IsLine.mono_l : ∀ k, (∀ y0 y1, LeO (impl_IsLine.j0 k y0 y1) (impl_IsLine.j0 (k + 1) y0 y1)) ∧ (∀ y0 y1 y2 y3, LeO (impl_IsLine.l0 k y0 y1 y2 y3) (impl_IsLine.l0 (k + 1) y0 y1 y2 y3))
 | 0 => ⟨fun _ _ r h => by simp [impl_IsLine.j0] at h, fun _ _ _ _ r h => by simp [impl_IsLine.l0] at h⟩
 | k + 1 => by
  obtain ⟨ih0, ih1⟩ := impl_IsLine.mono_l k; refine ⟨?_, ?_⟩
  ·intro y0 y1
   unfold impl_IsLine.j0
   repeat' first | (with_reducible first | exact ih0 _ _ | exact ih1 _ _ _ _ | exact LeO.refl _ | exact LeO.none _ | refine LeO.ite ?_ ?_ | refine LeO.bind ?_ (fun _ => ?_)) | exact ih0 _ _ | exact ih1 _ _ _ _ | exact LeO.none _ | refine LeO.ite ?_ ?_ | refine LeO.bind ?_ (fun _ => ?_)
  ·intro y0 y1 y2 y3
   unfold impl_IsLine.l0
   repeat' first | (with_reducible first | exact ih0 _ _ | exact ih1 _ _ _ _ | exact LeO.refl _ | exact LeO.none _ | refine LeO.ite ?_ ?_ | refine LeO.bind ?_ (fun _ => ?_)) | exact ih0 _ _ | exact ih1 _ _ _ _ | exact LeO.none _ | refine LeO.ite ?_ ?_ | refine LeO.bind ?_ (fun _ => ?_)
theorem impl_IsLine.mono : ∀ a0 k, LeO (impl_IsLine.f k a0) (impl_IsLine.f (k + 1) a0) := by
 intro a0 k; obtain ⟨ih0, ih1⟩ := impl_IsLine.mono_l k
 unfold impl_IsLine.f
 repeat' first | (with_reducible first | exact ih0 _ _ | exact ih1 _ _ _ _ | exact LeO.refl _ | exact LeO.none _ | refine LeO.ite ?_ ?_ | refine LeO.bind ?_ (fun _ => ?_)) | exact ih0 _ _ | exact ih1 _ _ _ _ | exact LeO.none _ | refine LeO.ite ?_ ?_ | refine LeO.bind ?_ (fun _ => ?_)
def impl_IsLine.T6 : Bool × List (List Nat × List Nat) := (true, [([], []), ([0], [0]), ([1], [1]), ([2, 1], [2]), ([3], [3]), ([4, 3], [3, 4]), ([5, 3, 3], [3, 5]), ([6], [6]), ([6], [6]), ([6], [6]), ([9, 6], [6, 9]), ([8, 10, 6], [6, 8, 10]), ([11, 6], [6, 11]), ([7, 12, 6], [6, 7, 12]), ([6, 13, 3], [3, 6, 13]), ([3, 14], [3, 14])])
def impl_IsLine.B6 : List Nat := [0, 1, 3, 7, 15, 31, 63, 127, 127, 127, 639, 1919, 3967, 8191, 16383, 32767]
theorem impl_IsLine.tab6 : rtab .any (opsOf Try.f111 6) = impl_IsLine.T6 := by kernel_rfl
theorem impl_IsLine.bits6 : waitsOk impl_IsLine.T6.2 impl_IsLine.B6 = true := by kernel_rfl
set_option maxHeartbeats 8000000 in
set_option maxRecDepth 100000 in
theorem impl_IsLine.calls (k : Nat) (A0 : Option Addr) (c0 : Nat) (l0 : List (S82)) (r : Bool) (w : World) (hr0 : Kd.C k82 w A0 l0.length l0) (hc0 : l0.length ≤ c0) (h : impl_IsLine.f k l0 = some r) :
  Calls Try.prog 111 #[.slice A0 l0.length c0] w fun e w' => e = .returned (.bool r) ∧ Below w.heap.size w w' := by
 have hu82 := Try.underlying82; have HR0 := Aside0.mk hr0; have HC0 := Aside0.mk hc0; clear hr0 hc0; have HB := Aside0.mk (Below.refl w.heap.size w); have H : (if (l0.length : Int) < 2 then (impl_IsLine.j0 k l0 true) else (impl_IsLine.j0 k l0 (decide ((l0.length : Int) > 10)))) = some r := h; clear h; have HC2 := Aside0.mk H; clear H
 go_enter Try.func111, Try.ntmps111
 go_upto_region 1 with (fail)
 go_cut [12] (fun v12 wc => ∃ (kq : Nat) (x12_1 : Bool), v12 = .bool x12_1 ∧ Aside0 (impl_IsLine.j0 kq l0 x12_1 = some r) ∧ Aside0 (kq ≤ k) ∧ Aside0 (Below w.heap.size w wc))
 case first =>
  have H := HC2.out; clear HC2
  by_cases c3 : (l0.length : Int) < 2
  ·rw [if_pos c3] at H; have c3b0 := decide_eq_true c3; have c3b1 : decide (l0.length < 2) = true := decide_eq_true (by omega); clear c3
   (first | rw [c3b0] | (simp only [i64_w, i32_w]; rw [c3b0]) | skip)
   have H' := Aside0.mk H; clear H; go_wp2
   go_meet
   case rel => exact ⟨_, (true), rz, H', ⟨qz⟩, ⟨bz⟩⟩
  ·rw [if_neg c3] at H; have c3b0 := decide_eq_false c3; have c3b1 : decide (l0.length < 2) = false := decide_eq_false (by omega); clear c3
   (first | rw [c3b0] | (simp only [i64_w, i32_w]; rw [c3b0]) | skip)
   have H' := Aside0.mk H; clear H; go_wp2
   go_meet
   case rel => exact ⟨_, (decide ((l0.length : Int) > 10)), rz, H', ⟨qz⟩, ⟨bz⟩⟩
 case rest =>
  clear HC2; (try clear c1); (try clear p2); (try clear c3); (try clear c3b0); (try clear c3b1); obtain ⟨kq, x12_1, rfl, HA, HJ1, HB⟩ := hcut
  cases kq with
  | zero => exact absurd HA.out (by simp [impl_IsLine.j0])
  | succ kj1 =>
   have H := HA.out; clear HA; simp only [impl_IsLine.j0] at H
   by_cases c4 : x12_1 = true
   ·subst c4; replace H := ift H; obtain rfl := Option.some.inj H; go_wp2; go_ret
    exact ⟨ez, bz⟩
   ·replace c4 := Bool.eq_false_iff.mpr c4; subst c4; replace H := iff_ H; have H' := Aside0.mk H; clear H; go_wp2
    go_loopg [15] kj1 (fun kq v15 w' => ∃ (x15_2 : Int), v15 = .int .i64 x15_2 ∧ Aside0 (impl_IsLine.l0 kq l0 l0 (l0.length : Int) x15_2 = some r) ∧ Aside0 (kq ≤ kj1) ∧ Aside0 (Below w.heap.size w w'))
    case atStart => exact ⟨(0), rz, H', ⟨Nat.le_refl _⟩, ⟨bz⟩⟩
    case round =>
     clear H'; (try clear c1); (try clear p2); (try clear c3); (try clear c3b0); (try clear c3b1); (try clear c4); (try clear p2); obtain ⟨x15_2, rfl, HA, HK2, HB⟩ := hrel
     cases gk with
     | zero => exact absurd HA.out (by simp [impl_IsLine.l0])
     | succ k2 =>
      have H := HA.out; clear HA; simp only [impl_IsLine.l0] at H
      by_cases c5 : x15_2 < (l0.length : Int)
      ·rw [if_pos c5] at H; have c5b0 := decide_eq_true c5; clear c5
       by_cases c6 : 0 ≤ x15_2
       ·rw [if_pos c6] at H; have c6b0 := decide_eq_true c6; clear c6
        by_cases c7 : x15_2 < (l0.length : Int)
        ·rw [if_pos c7] at H; have c7b0 := decide_eq_true c7; clear c7; replace H := Option.bind_eq_some_iff.mp H; obtain ⟨t315, A80, H⟩ := H; have A8 := Aside0.mk A80; clear A80
         by_cases c9 : t315 = true
         ·subst c9; replace H := ift H
          by_cases c10 : x15_2 > 0
          ·rw [if_pos c10] at H; have c10b0 := decide_eq_true c10; clear c10; obtain ⟨ji11, hji11⟩ : ∃ j_ : Int, (wrap64 (x15_2 - 1)) = j_ := ⟨_, rfl⟩
           replace H : (if 0 ≤ (ji11) then (if (ji11) < (l0.length : Int) then (if (((rd_T82 l0 x15_2).f0) == ((rd_T82 l0 (ji11)).f0) && (((rd_T82 l0 x15_2).f1) == ((rd_T82 l0 (ji11)).f1))) = true then (some false) else (impl_IsLine.l0 k2 l0 l0 (l0.length : Int) (wrap64 (x15_2 + 1)))) else (none)) else (none)) = some r := by first | (rw [hji11] at H; exact H) | (simp only [hji11] at H ⊢; exact H)
           (try rw [hji11] at A8); have hji11w : (IntKind.i64.wrap (x15_2 - 1)) = ji11 := (i64_w _).trans hji11
           by_cases c12 : 0 ≤ (ji11)
           ·rw [if_pos c12] at H; have c12b0 := decide_eq_true c12; clear c12
            by_cases c13 : (ji11) < (l0.length : Int)
            ·rw [if_pos c13] at H; have c13b0 := decide_eq_true c13; clear c13
             by_cases c14 : (((rd_T82 l0 x15_2).f0) == ((rd_T82 l0 (ji11)).f0) && (((rd_T82 l0 x15_2).f1) == ((rd_T82 l0 (ji11)).f1))) = true
             ·rw [if_pos c14] at H; have c14b0 : (((rd_T82 l0 x15_2).f0) == ((rd_T82 l0 (ji11)).f0) && (((rd_T82 l0 x15_2).f1) == ((rd_T82 l0 (ji11)).f1))) = true := c14; (try (have c14b1 : decide (((rd_T82 l0 x15_2).f0) = ((rd_T82 l0 (ji11)).f0) && (((rd_T82 l0 x15_2).f1) == ((rd_T82 l0 (ji11)).f1))) = true := by simpa using c14)); (try (have c14b2 : (((rd_T82 l0 x15_2).f0) == ((rd_T82 l0 (ji11)).f0) && (((rd_T82 l0 x15_2).f1) == ((rd_T82 l0 (ji11)).f1))) = true := by simpa using c14)); clear c14; obtain rfl := Option.some.inj H; have p313 : 0 ≤ (x15_2 : Int) := of_decide_eq_true az; have q313 : x15_2 < (l0.length : Int) := of_decide_eq_true az; obtain ⟨ad313, e313, hx313_0, hx313_1⟩ := at_T82 HR0.out x15_2 p313 q313
              cases e313
              replace hx313_0 := xz HB hx313_0; replace hx313_1 := xz HB hx313_1; replace p313 := eq_true p313; replace q313 := eq_true q313; (try go_wp2_with (first | ((with_reducible refine gate_dst (N := 4) rfl ?_); (try (refine gate_guard (by rfl) ?_; dsimp only)); refine box_event ?hg (N := 4) ?hd (cs := #[.int .i64 0, .int .i64 0]) (t := 82) ?hr ?_; (case hd => rfl); (case hg => rfl); (case hr => first | (go_simp; done) | (go_simp; rfl)); intro gb314 hg w15 hbox hb; have BK314 := Aside0.mk (hbox); have GW314 := Aside0.mk (gez HB hg); have GE314 := Aside0.mk (gez HB hg); replace HB := Aside0.mk (below_step bz hb); clear hb hbox hg; obtain ⟨hcz16_0, hcz16_1, hfz16_0, hfz16_1⟩ := cells2 BK314))); have n0_ : Aside0 (((w15.setCell ⟨gb314, 0, none⟩ (.int .i64 ((rd_T82 l0 x15_2).f0))).setCell ⟨gb314, 1, none⟩ (.int .i64 ((rd_T82 l0 x15_2).f1))).heap[gb314]? = some (.cells #[.int .i64 ((rd_T82 l0 x15_2).f0), .int .i64 ((rd_T82 l0 x15_2).f1)] 82 (0, 0))) := ⟨by (with_reducible repeat (first | refine blk_drewN ?_ _ | refine blk_drew ?_ | refine blk_alloc ?_ _)); refine blk_put (cs := #[.int .i64 ((rd_T82 l0 x15_2).f0), .int .i64 0]) ?_ 1 _ rfl; (with_reducible repeat (first | refine blk_drewN ?_ _ | refine blk_drew ?_ | refine blk_alloc ?_ _)); refine blk_put (cs := #[.int .i64 0, .int .i64 0]) ?_ 0 _ rfl; (with_reducible repeat (first | refine blk_drewN ?_ _ | refine blk_drew ?_ | refine blk_alloc ?_ _)); exact BK314.out⟩
              have n1_ : Aside0 (Below w.heap.size w ((w15.setCell ⟨gb314, 0, none⟩ (.int .i64 ((rd_T82 l0 x15_2).f0))).setCell ⟨gb314, 1, none⟩ (.int .i64 ((rd_T82 l0 x15_2).f1)))) := ⟨bzs⟩
              (try clear BK314); (try clear HB); generalize ((w15.setCell ⟨gb314, 0, none⟩ (.int .i64 ((rd_T82 l0 x15_2).f0))).setCell ⟨gb314, 1, none⟩ (.int .i64 ((rd_T82 l0 x15_2).f1))) = w17 at n0_ n1_ ⊢; have BK314 := n0_; have HB := n1_; clear n0_ n1_; replace BK314 := Aside0.mk (blk_drew BK314.out); replace HB := Aside0.mk (below_drew1 HB.out); have p316 : 0 ≤ ((ji11) : Int) := of_decide_eq_true az; have q316 : (ji11) < (l0.length : Int) := of_decide_eq_true az; obtain ⟨ad316, e316, hx316_0, hx316_1⟩ := at_T82 HR0.out (ji11) p316 q316; have hw316_1 := hx316_1; have hw316_0 := hx316_0; obtain rfl : ad313 = ad316 := (by injection e316)
              replace hx316_0 := xz HB hx316_0; replace hx316_1 := xz HB hx316_1; replace p316 := eq_true p316; replace q316 := eq_true q316; refine start_ (n := 16) (S := fun w' => w'.cell? ⟨gb314, 0, none⟩ = some (.int .i64 ((rd_T82 l0 x15_2).f0)) ∧ w'.cell? ⟨gb314, 1, none⟩ = some (.int .i64 ((rd_T82 l0 x15_2).f1)) ∧ w'.cell? (ad313.add (((ji11)).toNat * 2)) = some (.int .i64 ((rd_T82 l0 (ji11)).f0)) ∧ w'.cell? ⟨(ad313.add (((ji11)).toNat * 2)).block, (ad313.add (((ji11)).toNat * 2)).off + 1, none⟩ = some (.int .i64 ((rd_T82 l0 (ji11)).f1))) (ds := []) #[F,F,F,F,F,F,F,F,F,F,F,F,F,F,F,F] (by kernel_rfl) rfl rfl ⟨bc BK314 0, bc BK314 1, (xz HB hw316_0 :), (xz HB hw316_1 :)⟩ (fun hHeld => ?_); refine with_tabW impl_IsLine.tab6 impl_IsLine.bits6 (fun HT_ HW_ => ?_); generalize w17.drew = w18 at BK314 HB hx316_0 hx316_1 hHeld ⊢; refine tz4 HT_ HW_ hHeld 0 20 ?_; refine oz HT_ 1 (some 21) (fun K hK => ?_); refine gz Try.func123 #[.agg #[.int .i64 ((rd_T82 l0 x15_2).f0), .int .i64 ((rd_T82 l0 x15_2).f1)]] ?_
              with_reducible refine (impl_IsPoint.calls ((rd_T82 l0 x15_2).f0) ((rd_T82 l0 x15_2).f1) true _ A8.out).mono ?_
              rintro e w19 ⟨rfl, hb⟩; refine ⟨_, rfl, ?_⟩; replace BK314 := Aside0.mk (bbz BK314 hb); replace HB := Aside0.mk (below_step bzs hb); (try clear hb); (try clear hb2); (try clear hk); (try clear hi); refine hK.out _ _ ⟨bc BK314 0, bc BK314 1, (xz HB hw316_0 :), (xz HB hw316_1 :)⟩ (fun hHeld => ?_); clear hK K; refine nz 21 ?_; refine pz HT_ 2 22 ?_; refine pz HT_ 3 23 ?_; refine pz HT_ 4 24 ?_; refine pz HT_ 5 25 ?_; refine pz HT_ 6 26 ?_; refine pz HT_ 8 28 ?_; refine pz HT_ 9 29 ?_; refine pz HT_ 10 30 ?_; refine pz HT_ 11 31 ?_; refine tz4 HT_ HW_ hHeld 7 27 ?_; refine tz4 HT_ HW_ hHeld 12 32 ?_; refine pz HT_ 13 33 ?_; refine pz HT_ 14 34 ?_; refine pz HT_ 15 35 ?_; refine dz HT_ ?_; (try go_wp2); go_ret
              exact ⟨by first | rfl | (simp [errW_none, errW_some] <;> rfl) | (simp only [← hji11]; first | rfl | (simp [errW_none, errW_some] <;> rfl)) | (simp [*, errW_none, errW_some] <;> rfl), bzs⟩
             ·rw [if_neg c14] at H; have c14b0 : (((rd_T82 l0 x15_2).f0) == ((rd_T82 l0 (ji11)).f0) && (((rd_T82 l0 x15_2).f1) == ((rd_T82 l0 (ji11)).f1))) = false := by simpa using c14
              (try (have c14b1 : decide (((rd_T82 l0 x15_2).f0) = ((rd_T82 l0 (ji11)).f0) && (((rd_T82 l0 x15_2).f1) == ((rd_T82 l0 (ji11)).f1))) = false := by simpa using c14)); (try (have c14b2 : (((rd_T82 l0 x15_2).f0) == ((rd_T82 l0 (ji11)).f0) && (((rd_T82 l0 x15_2).f1) == ((rd_T82 l0 (ji11)).f1))) = false := by simpa using c14)); (try (have c14b3 : ¬ (((rd_T82 l0 x15_2).f0) = ((rd_T82 l0 (ji11)).f0) && (((rd_T82 l0 x15_2).f1) == ((rd_T82 l0 (ji11)).f1))) := by simpa using c14)); clear c14; have H' := Aside0.mk H; clear H; have p313 : 0 ≤ (x15_2 : Int) := of_decide_eq_true az; have q313 : x15_2 < (l0.length : Int) := of_decide_eq_true az; obtain ⟨ad313, e313, hx313_0, hx313_1⟩ := at_T82 HR0.out x15_2 p313 q313
              cases e313
              replace hx313_0 := xz HB hx313_0; replace hx313_1 := xz HB hx313_1; replace p313 := eq_true p313; replace q313 := eq_true q313; (try go_wp2_with (first | ((with_reducible refine gate_dst (N := 4) rfl ?_); (try (refine gate_guard (by rfl) ?_; dsimp only)); refine box_event ?hg (N := 4) ?hd (cs := #[.int .i64 0, .int .i64 0]) (t := 82) ?hr ?_; (case hd => rfl); (case hg => rfl); (case hr => first | (go_simp; done) | (go_simp; rfl)); intro gb314 hg w20 hbox hb; have BK314 := Aside0.mk (hbox); have GW314 := Aside0.mk (gez HB hg); have GE314 := Aside0.mk (gez HB hg); replace HB := Aside0.mk (below_step bz hb); clear hb hbox hg; obtain ⟨hcz21_0, hcz21_1, hfz21_0, hfz21_1⟩ := cells2 BK314))); have n0_ : Aside0 (((w20.setCell ⟨gb314, 0, none⟩ (.int .i64 ((rd_T82 l0 x15_2).f0))).setCell ⟨gb314, 1, none⟩ (.int .i64 ((rd_T82 l0 x15_2).f1))).heap[gb314]? = some (.cells #[.int .i64 ((rd_T82 l0 x15_2).f0), .int .i64 ((rd_T82 l0 x15_2).f1)] 82 (0, 0))) := ⟨by (with_reducible repeat (first | refine blk_drewN ?_ _ | refine blk_drew ?_ | refine blk_alloc ?_ _)); refine blk_put (cs := #[.int .i64 ((rd_T82 l0 x15_2).f0), .int .i64 0]) ?_ 1 _ rfl; (with_reducible repeat (first | refine blk_drewN ?_ _ | refine blk_drew ?_ | refine blk_alloc ?_ _)); refine blk_put (cs := #[.int .i64 0, .int .i64 0]) ?_ 0 _ rfl; (with_reducible repeat (first | refine blk_drewN ?_ _ | refine blk_drew ?_ | refine blk_alloc ?_ _)); exact BK314.out⟩
              have n1_ : Aside0 (Below w.heap.size w ((w20.setCell ⟨gb314, 0, none⟩ (.int .i64 ((rd_T82 l0 x15_2).f0))).setCell ⟨gb314, 1, none⟩ (.int .i64 ((rd_T82 l0 x15_2).f1)))) := ⟨bzs⟩
              (try clear BK314); (try clear HB); generalize ((w20.setCell ⟨gb314, 0, none⟩ (.int .i64 ((rd_T82 l0 x15_2).f0))).setCell ⟨gb314, 1, none⟩ (.int .i64 ((rd_T82 l0 x15_2).f1))) = w22 at n0_ n1_ ⊢; have BK314 := n0_; have HB := n1_; clear n0_ n1_; replace BK314 := Aside0.mk (blk_drew BK314.out); replace HB := Aside0.mk (below_drew1 HB.out); have p316 : 0 ≤ ((ji11) : Int) := of_decide_eq_true az; have q316 : (ji11) < (l0.length : Int) := of_decide_eq_true az; obtain ⟨ad316, e316, hx316_0, hx316_1⟩ := at_T82 HR0.out (ji11) p316 q316; have hw316_1 := hx316_1; have hw316_0 := hx316_0; obtain rfl : ad313 = ad316 := (by injection e316)
              replace hx316_0 := xz HB hx316_0; replace hx316_1 := xz HB hx316_1; replace p316 := eq_true p316; replace q316 := eq_true q316; refine start_ (n := 16) (S := fun w' => w'.cell? ⟨gb314, 0, none⟩ = some (.int .i64 ((rd_T82 l0 x15_2).f0)) ∧ w'.cell? ⟨gb314, 1, none⟩ = some (.int .i64 ((rd_T82 l0 x15_2).f1)) ∧ w'.cell? (ad313.add (((ji11)).toNat * 2)) = some (.int .i64 ((rd_T82 l0 (ji11)).f0)) ∧ w'.cell? ⟨(ad313.add (((ji11)).toNat * 2)).block, (ad313.add (((ji11)).toNat * 2)).off + 1, none⟩ = some (.int .i64 ((rd_T82 l0 (ji11)).f1))) (ds := []) #[F,F,F,F,F,F,F,F,F,F,F,F,F,F,F,F] (by kernel_rfl) rfl rfl ⟨bc BK314 0, bc BK314 1, (xz HB hw316_0 :), (xz HB hw316_1 :)⟩ (fun hHeld => ?_); refine with_tabW impl_IsLine.tab6 impl_IsLine.bits6 (fun HT_ HW_ => ?_); generalize w22.drew = w23 at BK314 HB hx316_0 hx316_1 hHeld ⊢; refine tz4 HT_ HW_ hHeld 0 20 ?_; refine oz HT_ 1 (some 21) (fun K hK => ?_); refine gz Try.func123 #[.agg #[.int .i64 ((rd_T82 l0 x15_2).f0), .int .i64 ((rd_T82 l0 x15_2).f1)]] ?_
              with_reducible refine (impl_IsPoint.calls ((rd_T82 l0 x15_2).f0) ((rd_T82 l0 x15_2).f1) true _ A8.out).mono ?_
              rintro e w24 ⟨rfl, hb⟩; refine ⟨_, rfl, ?_⟩; replace BK314 := Aside0.mk (bbz BK314 hb); replace HB := Aside0.mk (below_step bzs hb); (try clear hb); (try clear hb2); (try clear hk); (try clear hi); refine hK.out _ _ ⟨bc BK314 0, bc BK314 1, (xz HB hw316_0 :), (xz HB hw316_1 :)⟩ (fun hHeld => ?_); clear hK K; refine nz 21 ?_; refine pz HT_ 2 22 ?_; refine pz HT_ 3 23 ?_; refine pz HT_ 4 24 ?_; refine pz HT_ 5 25 ?_; refine pz HT_ 6 26 ?_; refine pz HT_ 8 28 ?_; refine pz HT_ 9 29 ?_; refine pz HT_ 10 30 ?_; refine pz HT_ 11 31 ?_; refine tz4 HT_ HW_ hHeld 7 27 ?_; refine tz4 HT_ HW_ hHeld 12 32 ?_; refine pz HT_ 13 33 ?_; refine pz HT_ 14 34 ?_; refine pz HT_ 15 35 ?_; refine dz HT_ ?_; (try go_wp2)
              go_roundg k2
              case measure => have := HJ1.out; have := HK2.out; omega
              case rel => exact ⟨(wrap64 (x15_2 + 1)), rz, H', ⟨by have := HJ1.out; have := HK2.out; omega⟩, ⟨bzs⟩⟩
            ·rw [if_neg c13] at H
             exact absurd H (by simp)
           ·rw [if_neg c12] at H
            exact absurd H (by simp)
          ·rw [if_neg c10] at H; have c10b0 := decide_eq_false c10; clear c10; have H' := Aside0.mk H; clear H; have p313 : 0 ≤ (x15_2 : Int) := of_decide_eq_true az; have q313 : x15_2 < (l0.length : Int) := of_decide_eq_true az; obtain ⟨ad313, e313, hx313_0, hx313_1⟩ := at_T82 HR0.out x15_2 p313 q313
           cases e313
           replace hx313_0 := xz HB hx313_0; replace hx313_1 := xz HB hx313_1; replace p313 := eq_true p313; replace q313 := eq_true q313; (try go_wp2_with (first | ((with_reducible refine gate_dst (N := 4) rfl ?_); (try (refine gate_guard (by rfl) ?_; dsimp only)); refine box_event ?hg (N := 4) ?hd (cs := #[.int .i64 0, .int .i64 0]) (t := 82) ?hr ?_; (case hd => rfl); (case hg => rfl); (case hr => first | (go_simp; done) | (go_simp; rfl)); intro gb314 hg w25 hbox hb; have BK314 := Aside0.mk (hbox); have GW314 := Aside0.mk (gez HB hg); have GE314 := Aside0.mk (gez HB hg); replace HB := Aside0.mk (below_step bz hb); clear hb hbox hg; obtain ⟨hcz26_0, hcz26_1, hfz26_0, hfz26_1⟩ := cells2 BK314))); have n0_ : Aside0 (((w25.setCell ⟨gb314, 0, none⟩ (.int .i64 ((rd_T82 l0 x15_2).f0))).setCell ⟨gb314, 1, none⟩ (.int .i64 ((rd_T82 l0 x15_2).f1))).heap[gb314]? = some (.cells #[.int .i64 ((rd_T82 l0 x15_2).f0), .int .i64 ((rd_T82 l0 x15_2).f1)] 82 (0, 0))) := ⟨by (with_reducible repeat (first | refine blk_drewN ?_ _ | refine blk_drew ?_ | refine blk_alloc ?_ _)); refine blk_put (cs := #[.int .i64 ((rd_T82 l0 x15_2).f0), .int .i64 0]) ?_ 1 _ rfl; (with_reducible repeat (first | refine blk_drewN ?_ _ | refine blk_drew ?_ | refine blk_alloc ?_ _)); refine blk_put (cs := #[.int .i64 0, .int .i64 0]) ?_ 0 _ rfl; (with_reducible repeat (first | refine blk_drewN ?_ _ | refine blk_drew ?_ | refine blk_alloc ?_ _)); exact BK314.out⟩
           have n1_ : Aside0 (Below w.heap.size w ((w25.setCell ⟨gb314, 0, none⟩ (.int .i64 ((rd_T82 l0 x15_2).f0))).setCell ⟨gb314, 1, none⟩ (.int .i64 ((rd_T82 l0 x15_2).f1)))) := ⟨bzs⟩
           (try clear BK314); (try clear HB); generalize ((w25.setCell ⟨gb314, 0, none⟩ (.int .i64 ((rd_T82 l0 x15_2).f0))).setCell ⟨gb314, 1, none⟩ (.int .i64 ((rd_T82 l0 x15_2).f1))) = w27 at n0_ n1_ ⊢; have BK314 := n0_; have HB := n1_; clear n0_ n1_; replace BK314 := Aside0.mk (blk_drew BK314.out); replace HB := Aside0.mk (below_drew1 HB.out); refine start_ (n := 16) (S := fun w' => w'.cell? ⟨gb314, 0, none⟩ = some (.int .i64 ((rd_T82 l0 x15_2).f0)) ∧ w'.cell? ⟨gb314, 1, none⟩ = some (.int .i64 ((rd_T82 l0 x15_2).f1))) (ds := []) #[F,F,F,F,F,F,F,F,F,F,F,F,F,F,F,F] (by kernel_rfl) rfl rfl ⟨bc BK314 0, bc BK314 1⟩ (fun hHeld => ?_); refine with_tabW impl_IsLine.tab6 impl_IsLine.bits6 (fun HT_ HW_ => ?_); generalize w27.drew = w28 at BK314 HB hHeld ⊢; refine tz2 HT_ HW_ hHeld 0 20 ?_; refine oz HT_ 1 (some 21) (fun K hK => ?_); refine gz Try.func123 #[.agg #[.int .i64 ((rd_T82 l0 x15_2).f0), .int .i64 ((rd_T82 l0 x15_2).f1)]] ?_
           with_reducible refine (impl_IsPoint.calls ((rd_T82 l0 x15_2).f0) ((rd_T82 l0 x15_2).f1) true _ A8.out).mono ?_
           rintro e w29 ⟨rfl, hb⟩; refine ⟨_, rfl, ?_⟩; replace BK314 := Aside0.mk (bbz BK314 hb); replace HB := Aside0.mk (below_step bzs hb); (try clear hb); (try clear hb2); (try clear hk); (try clear hi); refine hK.out _ _ ⟨bc BK314 0, bc BK314 1⟩ (fun hHeld => ?_); clear hK K; refine nz 21 ?_; refine pz HT_ 2 22 ?_; refine pz HT_ 3 23 ?_; refine pz HT_ 4 24 ?_; refine pz HT_ 5 25 ?_; refine pz HT_ 6 26 ?_; refine uz HT_ 7 27 ?_; refine uz HT_ 8 28 ?_; refine uz HT_ 9 29 ?_; refine uz HT_ 10 30 ?_; refine uz HT_ 11 31 ?_; refine uz HT_ 12 32 ?_; refine uz HT_ 13 33 ?_; refine pz HT_ 14 34 ?_; refine pz HT_ 15 35 ?_; refine dz HT_ ?_; (try go_wp2)
           go_roundg k2
           case measure => have := HJ1.out; have := HK2.out; omega
           case rel => exact ⟨(wrap64 (x15_2 + 1)), rz, H', ⟨by have := HJ1.out; have := HK2.out; omega⟩, ⟨bzs⟩⟩
         ·replace c9 := Bool.eq_false_iff.mpr c9; subst c9; replace H := iff_ H; obtain rfl := Option.some.inj H; have p313 : 0 ≤ (x15_2 : Int) := of_decide_eq_true az; have q313 : x15_2 < (l0.length : Int) := of_decide_eq_true az; obtain ⟨ad313, e313, hx313_0, hx313_1⟩ := at_T82 HR0.out x15_2 p313 q313
          cases e313
          replace hx313_0 := xz HB hx313_0; replace hx313_1 := xz HB hx313_1; replace p313 := eq_true p313; replace q313 := eq_true q313; (try go_wp2_with (first | ((with_reducible refine gate_dst (N := 4) rfl ?_); (try (refine gate_guard (by rfl) ?_; dsimp only)); refine box_event ?hg (N := 4) ?hd (cs := #[.int .i64 0, .int .i64 0]) (t := 82) ?hr ?_; (case hd => rfl); (case hg => rfl); (case hr => first | (go_simp; done) | (go_simp; rfl)); intro gb314 hg w30 hbox hb; have BK314 := Aside0.mk (hbox); have GW314 := Aside0.mk (gez HB hg); have GE314 := Aside0.mk (gez HB hg); replace HB := Aside0.mk (below_step bz hb); clear hb hbox hg; obtain ⟨hcz31_0, hcz31_1, hfz31_0, hfz31_1⟩ := cells2 BK314))); have n0_ : Aside0 (((w30.setCell ⟨gb314, 0, none⟩ (.int .i64 ((rd_T82 l0 x15_2).f0))).setCell ⟨gb314, 1, none⟩ (.int .i64 ((rd_T82 l0 x15_2).f1))).heap[gb314]? = some (.cells #[.int .i64 ((rd_T82 l0 x15_2).f0), .int .i64 ((rd_T82 l0 x15_2).f1)] 82 (0, 0))) := ⟨by (with_reducible repeat (first | refine blk_drewN ?_ _ | refine blk_drew ?_ | refine blk_alloc ?_ _)); refine blk_put (cs := #[.int .i64 ((rd_T82 l0 x15_2).f0), .int .i64 0]) ?_ 1 _ rfl; (with_reducible repeat (first | refine blk_drewN ?_ _ | refine blk_drew ?_ | refine blk_alloc ?_ _)); refine blk_put (cs := #[.int .i64 0, .int .i64 0]) ?_ 0 _ rfl; (with_reducible repeat (first | refine blk_drewN ?_ _ | refine blk_drew ?_ | refine blk_alloc ?_ _)); exact BK314.out⟩
          have n1_ : Aside0 (Below w.heap.size w ((w30.setCell ⟨gb314, 0, none⟩ (.int .i64 ((rd_T82 l0 x15_2).f0))).setCell ⟨gb314, 1, none⟩ (.int .i64 ((rd_T82 l0 x15_2).f1)))) := ⟨bzs⟩
          (try clear BK314); (try clear HB); generalize ((w30.setCell ⟨gb314, 0, none⟩ (.int .i64 ((rd_T82 l0 x15_2).f0))).setCell ⟨gb314, 1, none⟩ (.int .i64 ((rd_T82 l0 x15_2).f1))) = w32 at n0_ n1_ ⊢; have BK314 := n0_; have HB := n1_; clear n0_ n1_; replace BK314 := Aside0.mk (blk_drew BK314.out); replace HB := Aside0.mk (below_drew1 HB.out); refine start_ (n := 16) (S := fun w' => w'.cell? ⟨gb314, 0, none⟩ = some (.int .i64 ((rd_T82 l0 x15_2).f0)) ∧ w'.cell? ⟨gb314, 1, none⟩ = some (.int .i64 ((rd_T82 l0 x15_2).f1))) (ds := []) #[F,F,F,F,F,F,F,F,F,F,F,F,F,F,F,F] (by kernel_rfl) rfl rfl ⟨bc BK314 0, bc BK314 1⟩ (fun hHeld => ?_); refine with_tabW impl_IsLine.tab6 impl_IsLine.bits6 (fun HT_ HW_ => ?_); generalize w32.drew = w33 at BK314 HB hHeld ⊢; refine tz2 HT_ HW_ hHeld 0 20 ?_; refine oz HT_ 1 (some 21) (fun K hK => ?_); refine gz Try.func123 #[.agg #[.int .i64 ((rd_T82 l0 x15_2).f0), .int .i64 ((rd_T82 l0 x15_2).f1)]] ?_
          with_reducible refine (impl_IsPoint.calls ((rd_T82 l0 x15_2).f0) ((rd_T82 l0 x15_2).f1) false _ A8.out).mono ?_
          rintro e w34 ⟨rfl, hb⟩; refine ⟨_, rfl, ?_⟩; replace BK314 := Aside0.mk (bbz BK314 hb); replace HB := Aside0.mk (below_step bzs hb); (try clear hb); (try clear hb2); (try clear hk); (try clear hi); refine hK.out _ _ ⟨bc BK314 0, bc BK314 1⟩ (fun hHeld => ?_); clear hK K; refine nz 21 ?_; refine pz HT_ 2 22 ?_; refine pz HT_ 3 23 ?_; refine uz HT_ 4 24 ?_; refine uz HT_ 5 25 ?_; refine uz HT_ 6 26 ?_; refine uz HT_ 7 27 ?_; refine uz HT_ 8 28 ?_; refine uz HT_ 9 29 ?_; refine uz HT_ 10 30 ?_; refine uz HT_ 11 31 ?_; refine uz HT_ 12 32 ?_; refine uz HT_ 13 33 ?_; refine uz HT_ 14 34 ?_; refine pz HT_ 15 35 ?_; refine dz HT_ ?_; (try go_wp2); go_ret
          exact ⟨ez, bzs⟩
        ·rw [if_neg c7] at H
         exact absurd H (by simp)
       ·rw [if_neg c6] at H
        exact absurd H (by simp)
      ·rw [if_neg c5] at H; have c5b0 := decide_eq_false c5; clear c5; obtain rfl := Option.some.inj H; go_wp2; go_ret
       exact ⟨ez, bz⟩

end Go.Proofs.Ytdfehjfmihokpaa.PFnExactAllPieces
