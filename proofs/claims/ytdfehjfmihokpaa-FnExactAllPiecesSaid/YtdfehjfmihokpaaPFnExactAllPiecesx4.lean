-- Written by a program of this session's: the kit's print, turned (turnprint.py): functions, and that Go comes to just their answers.
import Derived.Test.YtdfehjfmihokpaaZ
import Derived.Test.YtdfehjfmihokpaaPFnExactAllPiecesx0
import Derived.Test.YtdfehjfmihokpaaPFnExactAllPiecesx3
namespace Go.Proofs.Ytdfehjfmihokpaa.PFnExactAllPieces
open Go.RowKit Go.Proofs.YtdfehjfmihokpaaW.PrintWords Go.Proofs.YtdfehjfmihokpaaW.PrintLast Go.Proofs.YtdfehjfmihokpaaW.PrintMore Go.Proofs.YtdfehjfmihokpaaGeo Go.Proofs.YtdfehjfmihokpaaHand Go.Proofs.YtdfehjfmihokpaaMeet Go.Proofs.YtdfehjfmihokpaaQuiet Go.Proofs.YtdfehjfmihokpaaZ
attribute [local go_sem] max2_int min2_int max_two min_two max_three min_three max_four min_four   -- for this text's walks alone
set_option linter.unusedVariables false
set_option linter.unusedSimpArgs false

/-! ### laws_eqFeatureS: function 31 -/
def laws_eqFeatureS.l0 : Nat → List (S29) → List (S29) → Int → Option (Bool)
 | 0, _, _, _ => none
 | k + 1, x0, x1, x5 => if x5 < (x0.length : Int) then (if 0 ≤ x5 then (if x5 < (x1.length : Int) then ((laws_eqFeature.f k ((rd_T29 x0 x5).f0) ((rd_T29 x0 x5).f1) ((rd_T29 x0 x5).f2) ((rd_T29 x0 x5).f3) ((rd_T29 x0 x5).f4) ((rd_T29 x1 x5).f0) ((rd_T29 x1 x5).f1) ((rd_T29 x1 x5).f2) ((rd_T29 x1 x5).f3) ((rd_T29 x1 x5).f4)).bind fun t143 => (if t143 = true then (laws_eqFeatureS.l0 k x0 x1 (wrap64 (x5 + 1))) else (some false))) else (none)) else (none)) else (some true)
def laws_eqFeatureS.f (k : Nat) (l0 : List (S29)) (l1 : List (S29)) : Option (Bool) := if (l0.length : Int) = (l1.length : Int) then (laws_eqFeatureS.l0 k l0 l1 0) else (some false)
theorem laws_eqFeatureS.mono_l : ∀ k, (∀ y0 y1 y2, LeO (laws_eqFeatureS.l0 k y0 y1 y2) (laws_eqFeatureS.l0 (k + 1) y0 y1 y2))
 | 0 => fun _ _ _ r h => by simp [laws_eqFeatureS.l0] at h
 | k + 1 => by
  have ih0 := laws_eqFeatureS.mono_l k
  ·intro y0 y1 y2
   unfold laws_eqFeatureS.l0
   repeat' first | (with_reducible first | exact ih0 _ _ _ | exact laws_eqFeature.mono _ _ _ _ _ _ _ _ _ _ _ | exact LeO.refl _ | exact LeO.none _ | refine LeO.ite ?_ ?_ | refine LeO.bind ?_ (fun _ => ?_)) | exact ih0 _ _ _ | exact laws_eqFeature.mono _ _ _ _ _ _ _ _ _ _ _ | exact LeO.none _ | refine LeO.ite ?_ ?_ | refine LeO.bind ?_ (fun _ => ?_)
theorem laws_eqFeatureS.mono : ∀ a0 a1 k, LeO (laws_eqFeatureS.f k a0 a1) (laws_eqFeatureS.f (k + 1) a0 a1) := by
 intro a0 a1 k; have ih0 := laws_eqFeatureS.mono_l k
 unfold laws_eqFeatureS.f
 repeat' first | (with_reducible first | exact ih0 _ _ _ | exact laws_eqFeature.mono _ _ _ _ _ _ _ _ _ _ _ | exact LeO.refl _ | exact LeO.none _ | refine LeO.ite ?_ ?_ | refine LeO.bind ?_ (fun _ => ?_)) | exact ih0 _ _ _ | exact laws_eqFeature.mono _ _ _ _ _ _ _ _ _ _ _ | exact LeO.none _ | refine LeO.ite ?_ ?_ | refine LeO.bind ?_ (fun _ => ?_)
def laws_eqFeatureS.T6 : Bool × List (List Nat × List Nat) := (true, [([], []), ([], []), ([0, 1], [0, 1]), ([2], [2]), ([], []), ([], []), ([4, 5], [4, 5]), ([6], [6]), ([3, 7], [3, 7]), ([8], [8])])
def laws_eqFeatureS.B6 : List Nat := [0, 0, 3, 7, 0, 0, 48, 112, 255, 511]
theorem laws_eqFeatureS.tab6 : rtab .any (opsOf Try.f31 6) = laws_eqFeatureS.T6 := by kernel_rfl
theorem laws_eqFeatureS.bits6 : waitsOk laws_eqFeatureS.T6.2 laws_eqFeatureS.B6 = true := by kernel_rfl
set_option maxHeartbeats 8000000 in
set_option maxRecDepth 100000 in
theorem laws_eqFeatureS.calls (k : Nat) (A0 : Option Addr) (c0 : Nat) (l0 : List (S29)) (A1 : Option Addr) (c1 : Nat) (l1 : List (S29)) (r : Bool) (w : World) (hr0 : Kd.C k29 w A0 l0.length l0) (hc0 : l0.length ≤ c0) (hr1 : Kd.C k29 w A1 l1.length l1) (hc1 : l1.length ≤ c1) (h : laws_eqFeatureS.f k l0 l1 = some r) :
  Calls Try.prog 31 #[.slice A0 l0.length c0, .slice A1 l1.length c1] w fun e w' => e = .returned (.bool r) ∧ Below w.heap.size w w' := by
 have hu29 := Try.underlying29; have HR0 := Aside0.mk hr0; have HC0 := Aside0.mk hc0; clear hr0 hc0; have HR1 := Aside0.mk hr1; have HC1 := Aside0.mk hc1; clear hr1 hc1; have HB := Aside0.mk (Below.refl w.heap.size w); have H : (if (l0.length : Int) = (l1.length : Int) then (laws_eqFeatureS.l0 k l0 l1 0) else (some false)) = some r := h; clear h
 by_cases c3 : (l0.length : Int) = (l1.length : Int)
 ·rw [if_pos c3] at H; have c3b0 : ((l0.length : Int) == (l1.length : Int)) = true := beq_iff_eq.mpr c3; have c3b1 : ((l0.length : Int) != (l1.length : Int)) = false := bne_eq_false_iff_eq.mpr c3
  have c3b2 : (l0.length == l1.length) = true := by first | simpa using c3 | (simp at c3 ⊢; omega)
  clear c3; have H' := Aside0.mk H; clear H
  go_enter Try.func31, Try.ntmps31; go_wp2
  go_loopg [5] k (fun kq v5 w' => ∃ (x5_1 : Int), v5 = .int .i64 x5_1 ∧ Aside0 (laws_eqFeatureS.l0 kq l0 l1 x5_1 = some r) ∧ Aside0 (kq ≤ k) ∧ Aside0 (Below w.heap.size w w'))
  case atStart => exact ⟨(0), rz, H', ⟨Nat.le_refl _⟩, ⟨bz⟩⟩
  case round =>
   clear H'; (try clear c1); (try clear p2); (try clear c3); (try clear c3b0); (try clear c3b1); (try clear c3b2); obtain ⟨x5_1, rfl, HA, HK1, HB⟩ := hrel
   cases gk with
   | zero => exact absurd HA.out (by simp [laws_eqFeatureS.l0])
   | succ k1 =>
    have H := HA.out; clear HA; simp only [laws_eqFeatureS.l0] at H
    by_cases c4 : x5_1 < (l0.length : Int)
    ·rw [if_pos c4] at H; have c4b0 := decide_eq_true c4; clear c4
     by_cases c5 : 0 ≤ x5_1
     ·rw [if_pos c5] at H; have c5b0 := decide_eq_true c5; clear c5
      by_cases c6 : x5_1 < (l1.length : Int)
      ·rw [if_pos c6] at H; have c6b0 := decide_eq_true c6; clear c6; replace H := Option.bind_eq_some_iff.mp H; obtain ⟨t143, A70, H⟩ := H; have A7 := Aside0.mk A70; clear A70
       by_cases c8 : t143 = true
       ·subst c8; replace H := ift H; have H' := Aside0.mk H; clear H; (try go_wp2); replace HB := Aside0.mk (below_drew1 HB.out); have p141 : 0 ≤ (x5_1 : Int) := of_decide_eq_true az; have q141 : x5_1 < (l0.length : Int) := of_decide_eq_true az; obtain ⟨ad141, A141_4, c141_4, e141, hx141_0, hx141_1, hx141_2, hx141_3, hx141_4, hl141_4, hi141_4⟩ := at_T29 HR0.out x5_1 p141 q141; have hw141_4 := hx141_4; have hw141_3 := hx141_3; have hw141_2 := hx141_2; have hw141_1 := hx141_1; have hw141_0 := hx141_0
        cases e141
        replace hx141_0 := xz HB hx141_0; replace hx141_1 := xz HB hx141_1; replace hx141_2 := xz HB hx141_2; replace hx141_3 := xz HB hx141_3; replace hx141_4 := xz HB hx141_4; have HR141_4 := Aside0.mk hi141_4; have HC141_4 := Aside0.mk hl141_4; clear hi141_4 hl141_4; replace p141 := eq_true p141; replace q141 := eq_true q141; have p142 : 0 ≤ (x5_1 : Int) := of_decide_eq_true az; have q142 : x5_1 < (l1.length : Int) := of_decide_eq_true az; obtain ⟨ad142, A142_4, c142_4, e142, hx142_0, hx142_1, hx142_2, hx142_3, hx142_4, hl142_4, hi142_4⟩ := at_T29 HR1.out x5_1 p142 q142; have hw142_4 := hx142_4; have hw142_3 := hx142_3; have hw142_2 := hx142_2; have hw142_1 := hx142_1; have hw142_0 := hx142_0
        cases e142
        replace hx142_0 := xz HB hx142_0; replace hx142_1 := xz HB hx142_1; replace hx142_2 := xz HB hx142_2; replace hx142_3 := xz HB hx142_3; replace hx142_4 := xz HB hx142_4; have HR142_4 := Aside0.mk hi142_4; have HC142_4 := Aside0.mk hl142_4; clear hi142_4 hl142_4; replace p142 := eq_true p142; replace q142 := eq_true q142; refine start_ (n := 10) (S := fun w' => w'.cell? (ad141.add ((x5_1).toNat * 5)) = some (.int .i64 ((rd_T29 l0 x5_1).f0)) ∧ w'.cell? ⟨(ad141.add ((x5_1).toNat * 5)).block, (ad141.add ((x5_1).toNat * 5)).off + 1, none⟩ = some (.int .i64 ((rd_T29 l0 x5_1).f1)) ∧ w'.cell? ⟨(ad141.add ((x5_1).toNat * 5)).block, (ad141.add ((x5_1).toNat * 5)).off + 2, none⟩ = some (.int .i64 ((rd_T29 l0 x5_1).f2)) ∧ w'.cell? ⟨(ad141.add ((x5_1).toNat * 5)).block, (ad141.add ((x5_1).toNat * 5)).off + 3, none⟩ = some (.string ((rd_T29 l0 x5_1).f3)) ∧ w'.cell? ⟨(ad141.add ((x5_1).toNat * 5)).block, (ad141.add ((x5_1).toNat * 5)).off + 4, none⟩ = some (.slice A141_4 ((rd_T29 l0 x5_1).f4).length c141_4) ∧ w'.cell? (ad142.add ((x5_1).toNat * 5)) = some (.int .i64 ((rd_T29 l1 x5_1).f0)) ∧ w'.cell? ⟨(ad142.add ((x5_1).toNat * 5)).block, (ad142.add ((x5_1).toNat * 5)).off + 1, none⟩ = some (.int .i64 ((rd_T29 l1 x5_1).f1)) ∧ w'.cell? ⟨(ad142.add ((x5_1).toNat * 5)).block, (ad142.add ((x5_1).toNat * 5)).off + 2, none⟩ = some (.int .i64 ((rd_T29 l1 x5_1).f2)) ∧ w'.cell? ⟨(ad142.add ((x5_1).toNat * 5)).block, (ad142.add ((x5_1).toNat * 5)).off + 3, none⟩ = some (.string ((rd_T29 l1 x5_1).f3)) ∧ w'.cell? ⟨(ad142.add ((x5_1).toNat * 5)).block, (ad142.add ((x5_1).toNat * 5)).off + 4, none⟩ = some (.slice A142_4 ((rd_T29 l1 x5_1).f4).length c142_4)) (ds := []) #[F,F,F,F,F,F,F,F,F,F] (by kernel_rfl) rfl rfl ⟨(xz HB hw141_0 :), (xz HB hw141_1 :), (xz HB hw141_2 :), (xz HB hw141_3 :), (xz HB hw141_4 :), (xz HB hw142_0 :), (xz HB hw142_1 :), (xz HB hw142_2 :), (xz HB hw142_3 :), (xz HB hw142_4 :)⟩ (fun hHeld => ?_); refine with_tabW laws_eqFeatureS.tab6 laws_eqFeatureS.bits6 (fun HT_ HW_ => ?_)
        generalize wr.drew = w9 at HB HR141_4 HR142_4 hx141_0 hx141_1 hx141_2 hx141_3 hx141_4 hx142_0 hx142_1 hx142_2 hx142_3 hx142_4 hHeld ⊢; refine pz HT_ 0 17 ?_; refine pz HT_ 1 18 ?_; refine pz HT_ 2 19 ?_; refine pz HT_ 4 21 ?_; refine pz HT_ 5 22 ?_; refine pz HT_ 6 23 ?_; refine tz10 HT_ HW_ hHeld 3 20 ?_; refine tz10 HT_ HW_ hHeld 7 24 ?_; refine oz HT_ 8 (some 25) (fun K hK => ?_); refine gz Try.func19 #[.agg #[.int .i64 ((rd_T29 l0 x5_1).f0), .int .i64 ((rd_T29 l0 x5_1).f1), .int .i64 ((rd_T29 l0 x5_1).f2), .string ((rd_T29 l0 x5_1).f3), .slice A141_4 ((rd_T29 l0 x5_1).f4).length c141_4], .agg #[.int .i64 ((rd_T29 l1 x5_1).f0), .int .i64 ((rd_T29 l1 x5_1).f1), .int .i64 ((rd_T29 l1 x5_1).f2), .string ((rd_T29 l1 x5_1).f3), .slice A142_4 ((rd_T29 l1 x5_1).f4).length c142_4]] ?_
        with_reducible refine (laws_eqFeature.calls k1 ((rd_T29 l0 x5_1).f0) ((rd_T29 l0 x5_1).f1) ((rd_T29 l0 x5_1).f2) ((rd_T29 l0 x5_1).f3) _ _ ((rd_T29 l0 x5_1).f4) ((rd_T29 l1 x5_1).f0) ((rd_T29 l1 x5_1).f1) ((rd_T29 l1 x5_1).f2) ((rd_T29 l1 x5_1).f3) _ _ ((rd_T29 l1 x5_1).f4) true _ ?side1 ?side2 ?side3 ?side4 A7.out).mono ?_
        (case side1 => repeat (first | exact (Kd.C_below HR141_4.out HB.out) | (with_reducible refine Kd.C_alloc ?_ _) | (with_reducible refine Kd.C_drewN ?_ _) | (with_reducible refine Kd.C_drew ?_)))
        (case side2 => exact HC141_4.out)
        (case side3 => repeat (first | exact (Kd.C_below HR142_4.out HB.out) | (with_reducible refine Kd.C_alloc ?_ _) | (with_reducible refine Kd.C_drewN ?_ _) | (with_reducible refine Kd.C_drew ?_)))
        (case side4 => exact HC142_4.out)
        rintro e w10 ⟨rfl, hb⟩; refine ⟨_, rfl, ?_⟩; replace HB := Aside0.mk (below_step bz hb); (try clear hb); (try clear hb2); (try clear hk); (try clear hi); refine hK.out _ _ ⟨(xz HB hw141_0 :), (xz HB hw141_1 :), (xz HB hw141_2 :), (xz HB hw141_3 :), (xz HB hw141_4 :), (xz HB hw142_0 :), (xz HB hw142_1 :), (xz HB hw142_2 :), (xz HB hw142_3 :), (xz HB hw142_4 :)⟩ (fun hHeld => ?_); clear hK K; refine nz 25 ?_; refine pz HT_ 9 26 ?_; refine dz HT_ ?_; (try go_wp2)
        go_roundg k1
        case measure => have := HK1.out; omega
        case rel => exact ⟨(wrap64 (x5_1 + 1)), rz, H', ⟨by have := HK1.out; omega⟩, ⟨bz⟩⟩
       ·replace c8 := Bool.eq_false_iff.mpr c8; subst c8; replace H := iff_ H; obtain rfl := Option.some.inj H; (try go_wp2); replace HB := Aside0.mk (below_drew1 HB.out); have p141 : 0 ≤ (x5_1 : Int) := of_decide_eq_true az; have q141 : x5_1 < (l0.length : Int) := of_decide_eq_true az; obtain ⟨ad141, A141_4, c141_4, e141, hx141_0, hx141_1, hx141_2, hx141_3, hx141_4, hl141_4, hi141_4⟩ := at_T29 HR0.out x5_1 p141 q141; have hw141_4 := hx141_4; have hw141_3 := hx141_3; have hw141_2 := hx141_2; have hw141_1 := hx141_1; have hw141_0 := hx141_0
        cases e141
        replace hx141_0 := xz HB hx141_0; replace hx141_1 := xz HB hx141_1; replace hx141_2 := xz HB hx141_2; replace hx141_3 := xz HB hx141_3; replace hx141_4 := xz HB hx141_4; have HR141_4 := Aside0.mk hi141_4; have HC141_4 := Aside0.mk hl141_4; clear hi141_4 hl141_4; replace p141 := eq_true p141; replace q141 := eq_true q141; have p142 : 0 ≤ (x5_1 : Int) := of_decide_eq_true az; have q142 : x5_1 < (l1.length : Int) := of_decide_eq_true az; obtain ⟨ad142, A142_4, c142_4, e142, hx142_0, hx142_1, hx142_2, hx142_3, hx142_4, hl142_4, hi142_4⟩ := at_T29 HR1.out x5_1 p142 q142; have hw142_4 := hx142_4; have hw142_3 := hx142_3; have hw142_2 := hx142_2; have hw142_1 := hx142_1; have hw142_0 := hx142_0
        cases e142
        replace hx142_0 := xz HB hx142_0; replace hx142_1 := xz HB hx142_1; replace hx142_2 := xz HB hx142_2; replace hx142_3 := xz HB hx142_3; replace hx142_4 := xz HB hx142_4; have HR142_4 := Aside0.mk hi142_4; have HC142_4 := Aside0.mk hl142_4; clear hi142_4 hl142_4; replace p142 := eq_true p142; replace q142 := eq_true q142; refine start_ (n := 10) (S := fun w' => w'.cell? (ad141.add ((x5_1).toNat * 5)) = some (.int .i64 ((rd_T29 l0 x5_1).f0)) ∧ w'.cell? ⟨(ad141.add ((x5_1).toNat * 5)).block, (ad141.add ((x5_1).toNat * 5)).off + 1, none⟩ = some (.int .i64 ((rd_T29 l0 x5_1).f1)) ∧ w'.cell? ⟨(ad141.add ((x5_1).toNat * 5)).block, (ad141.add ((x5_1).toNat * 5)).off + 2, none⟩ = some (.int .i64 ((rd_T29 l0 x5_1).f2)) ∧ w'.cell? ⟨(ad141.add ((x5_1).toNat * 5)).block, (ad141.add ((x5_1).toNat * 5)).off + 3, none⟩ = some (.string ((rd_T29 l0 x5_1).f3)) ∧ w'.cell? ⟨(ad141.add ((x5_1).toNat * 5)).block, (ad141.add ((x5_1).toNat * 5)).off + 4, none⟩ = some (.slice A141_4 ((rd_T29 l0 x5_1).f4).length c141_4) ∧ w'.cell? (ad142.add ((x5_1).toNat * 5)) = some (.int .i64 ((rd_T29 l1 x5_1).f0)) ∧ w'.cell? ⟨(ad142.add ((x5_1).toNat * 5)).block, (ad142.add ((x5_1).toNat * 5)).off + 1, none⟩ = some (.int .i64 ((rd_T29 l1 x5_1).f1)) ∧ w'.cell? ⟨(ad142.add ((x5_1).toNat * 5)).block, (ad142.add ((x5_1).toNat * 5)).off + 2, none⟩ = some (.int .i64 ((rd_T29 l1 x5_1).f2)) ∧ w'.cell? ⟨(ad142.add ((x5_1).toNat * 5)).block, (ad142.add ((x5_1).toNat * 5)).off + 3, none⟩ = some (.string ((rd_T29 l1 x5_1).f3)) ∧ w'.cell? ⟨(ad142.add ((x5_1).toNat * 5)).block, (ad142.add ((x5_1).toNat * 5)).off + 4, none⟩ = some (.slice A142_4 ((rd_T29 l1 x5_1).f4).length c142_4)) (ds := []) #[F,F,F,F,F,F,F,F,F,F] (by kernel_rfl) rfl rfl ⟨(xz HB hw141_0 :), (xz HB hw141_1 :), (xz HB hw141_2 :), (xz HB hw141_3 :), (xz HB hw141_4 :), (xz HB hw142_0 :), (xz HB hw142_1 :), (xz HB hw142_2 :), (xz HB hw142_3 :), (xz HB hw142_4 :)⟩ (fun hHeld => ?_); refine with_tabW laws_eqFeatureS.tab6 laws_eqFeatureS.bits6 (fun HT_ HW_ => ?_)
        generalize wr.drew = w11 at HB HR141_4 HR142_4 hx141_0 hx141_1 hx141_2 hx141_3 hx141_4 hx142_0 hx142_1 hx142_2 hx142_3 hx142_4 hHeld ⊢; refine pz HT_ 0 17 ?_; refine pz HT_ 1 18 ?_; refine pz HT_ 2 19 ?_; refine pz HT_ 4 21 ?_; refine pz HT_ 5 22 ?_; refine pz HT_ 6 23 ?_; refine tz10 HT_ HW_ hHeld 3 20 ?_; refine tz10 HT_ HW_ hHeld 7 24 ?_; refine oz HT_ 8 (some 25) (fun K hK => ?_); refine gz Try.func19 #[.agg #[.int .i64 ((rd_T29 l0 x5_1).f0), .int .i64 ((rd_T29 l0 x5_1).f1), .int .i64 ((rd_T29 l0 x5_1).f2), .string ((rd_T29 l0 x5_1).f3), .slice A141_4 ((rd_T29 l0 x5_1).f4).length c141_4], .agg #[.int .i64 ((rd_T29 l1 x5_1).f0), .int .i64 ((rd_T29 l1 x5_1).f1), .int .i64 ((rd_T29 l1 x5_1).f2), .string ((rd_T29 l1 x5_1).f3), .slice A142_4 ((rd_T29 l1 x5_1).f4).length c142_4]] ?_
        with_reducible refine (laws_eqFeature.calls k1 ((rd_T29 l0 x5_1).f0) ((rd_T29 l0 x5_1).f1) ((rd_T29 l0 x5_1).f2) ((rd_T29 l0 x5_1).f3) _ _ ((rd_T29 l0 x5_1).f4) ((rd_T29 l1 x5_1).f0) ((rd_T29 l1 x5_1).f1) ((rd_T29 l1 x5_1).f2) ((rd_T29 l1 x5_1).f3) _ _ ((rd_T29 l1 x5_1).f4) false _ ?side1 ?side2 ?side3 ?side4 A7.out).mono ?_
        (case side1 => repeat (first | exact (Kd.C_below HR141_4.out HB.out) | (with_reducible refine Kd.C_alloc ?_ _) | (with_reducible refine Kd.C_drewN ?_ _) | (with_reducible refine Kd.C_drew ?_)))
        (case side2 => exact HC141_4.out)
        (case side3 => repeat (first | exact (Kd.C_below HR142_4.out HB.out) | (with_reducible refine Kd.C_alloc ?_ _) | (with_reducible refine Kd.C_drewN ?_ _) | (with_reducible refine Kd.C_drew ?_)))
        (case side4 => exact HC142_4.out)
        rintro e w12 ⟨rfl, hb⟩; refine ⟨_, rfl, ?_⟩; replace HB := Aside0.mk (below_step bz hb); (try clear hb); (try clear hb2); (try clear hk); (try clear hi); refine hK.out _ _ ⟨(xz HB hw141_0 :), (xz HB hw141_1 :), (xz HB hw141_2 :), (xz HB hw141_3 :), (xz HB hw141_4 :), (xz HB hw142_0 :), (xz HB hw142_1 :), (xz HB hw142_2 :), (xz HB hw142_3 :), (xz HB hw142_4 :)⟩ (fun hHeld => ?_); clear hK K; refine nz 25 ?_; refine pz HT_ 9 26 ?_; refine dz HT_ ?_; (try go_wp2); go_ret
        exact ⟨ez, bz⟩
      ·rw [if_neg c6] at H
       exact absurd H (by simp)
     ·rw [if_neg c5] at H
      exact absurd H (by simp)
    ·rw [if_neg c4] at H; have c4b0 := decide_eq_false c4; clear c4; obtain rfl := Option.some.inj H; go_wp2; go_ret
     exact ⟨ez, bz⟩
 ·rw [if_neg c3] at H; have c3b0 : ((l0.length : Int) == (l1.length : Int)) = false := beq_eq_false_iff_ne.mpr c3; have c3b1 : ((l0.length : Int) != (l1.length : Int)) = true := bne_iff_ne.mpr c3
  have c3b2 : (l0.length == l1.length) = false := by first | simpa using c3 | (simp at c3 ⊢; omega)
  obtain rfl := Option.some.inj H
  go_enter Try.func31, Try.ntmps31; go_wp2; go_ret
  exact ⟨ez, bz⟩

/-! ### laws_markText: function 88 -/
def laws_markText.l0 : Nat → Int → ByteArray → Option (ByteArray)
 | 0, _, _ => none
 | k + 1, x0, x3 => if x0 > 0 then ((some (([(wrap64 (48 + (Int.tmod x0 10))) % 256] : List Int) : List Int)).bind fun y144 => (if (strOfNums y144).size + x3.size ≤ 9223372036854775807 then (laws_markText.l0 k (wrap64 (Int.tdiv x0 10)) ((strOfNums y144) ++ x3)) else (none))) else (if 1 + x3.size ≤ 9223372036854775807 then (some ((⟨#[109]⟩ : ByteArray) ++ x3)) else (none))
def laws_markText.f (k : Nat) (a0 : Int) : Option (ByteArray) := if a0 ≤ 0 then (some (⟨#[109, 48]⟩ : ByteArray)) else (laws_markText.l0 k a0 (⟨#[]⟩ : ByteArray))
theorem laws_markText.mono_l : ∀ k, (∀ y0 y1, LeO (laws_markText.l0 k y0 y1) (laws_markText.l0 (k + 1) y0 y1))
 | 0 => fun _ _ r h => by simp [laws_markText.l0] at h
 | k + 1 => by
  have ih0 := laws_markText.mono_l k
  ·intro y0 y1
   unfold laws_markText.l0
   repeat' first | (with_reducible first | exact ih0 _ _ | exact LeO.refl _ | exact LeO.none _ | refine LeO.ite ?_ ?_ | refine LeO.bind ?_ (fun _ => ?_)) | exact ih0 _ _ | exact LeO.none _ | refine LeO.ite ?_ ?_ | refine LeO.bind ?_ (fun _ => ?_)
theorem laws_markText.mono : ∀ a0 k, LeO (laws_markText.f k a0) (laws_markText.f (k + 1) a0) := by
 intro a0 k; have ih0 := laws_markText.mono_l k
 unfold laws_markText.f
 repeat' first | (with_reducible first | exact ih0 _ _ | exact LeO.refl _ | exact LeO.none _ | refine LeO.ite ?_ ?_ | refine LeO.bind ?_ (fun _ => ?_)) | exact ih0 _ _ | exact LeO.none _ | refine LeO.ite ?_ ?_ | refine LeO.bind ?_ (fun _ => ?_)
set_option maxHeartbeats 8000000 in
set_option maxRecDepth 100000 in
theorem laws_markText.calls (k : Nat) (a0 : Int) (r : ByteArray) (w : World) (h : laws_markText.f k a0 = some r) :
  Calls Try.prog 88 #[.int .i64 a0] w fun e w' => e = .returned (.string r) ∧ Below w.heap.size w w' := by
 have HB := Aside0.mk (Below.refl w.heap.size w); have H : (if a0 ≤ 0 then (some (⟨#[109, 48]⟩ : ByteArray)) else (laws_markText.l0 k a0 (⟨#[]⟩ : ByteArray))) = some r := h; clear h
 by_cases c2 : a0 ≤ 0
 ·rw [if_pos c2] at H; have c2b0 := decide_eq_true c2; clear c2; obtain rfl := Option.some.inj H
  go_enter Try.func88, Try.ntmps88; go_wp2; go_ret
  exact ⟨ez, bz⟩
 ·rw [if_neg c2] at H; have c2b0 := decide_eq_false c2; clear c2; have H' := Aside0.mk H; clear H
  go_enter Try.func88, Try.ntmps88; go_wp2
  go_loopg [0, 3] k (fun kq v0 v3 w' => ∃ (x0_1 : Int) (x3_1 : ByteArray), v0 = .int .i64 x0_1 ∧ v3 = .string x3_1 ∧ Aside0 (laws_markText.l0 kq x0_1 x3_1 = some r) ∧ Aside0 (kq ≤ k) ∧ Aside0 (Below w.heap.size w w'))
  case atStart => exact ⟨(a0), ((⟨#[]⟩ : ByteArray)), rz, rz, H', ⟨Nat.le_refl _⟩, ⟨bz⟩⟩
  case round =>
   clear H'; (try clear c2); (try clear c2b0); (try clear p2); obtain ⟨x0_1, x3_1, rfl, rfl, HA, HK1, HB⟩ := hrel
   cases gk with
   | zero => exact absurd HA.out (by simp [laws_markText.l0])
   | succ k1 =>
    have H := HA.out; clear HA; simp only [laws_markText.l0] at H
    by_cases c3 : x0_1 > 0
    ·rw [if_pos c3] at H; have c3b0 := decide_eq_true c3; clear c3; obtain ⟨y144, hy144⟩ : ∃ y_ : List Int, y_ = (([(wrap64 (48 + (Int.tmod x0_1 10))) % 256] : List Int)) := ⟨_, rfl⟩
     replace H : (if (strOfNums y144).size + x3_1.size ≤ 9223372036854775807 then (laws_markText.l0 k1 (wrap64 (Int.tdiv x0_1 10)) ((strOfNums y144) ++ x3_1)) else (none)) = some r := by first | (rw [hy144]; with_reducible exact H) | (have H2_ := (Option.bind_some _ _).symm.trans H; rw [hy144]; with_reducible exact H2_) | (have H2_ := (Option.bind_some _ _).symm.trans H; with_reducible exact H2_) | with_reducible exact H | (rw [hy144]; exact H) | exact H
     have Ny144 := Aside0.mk hy144; clear hy144
     by_cases c4 : (strOfNums y144).size + x3_1.size ≤ 9223372036854775807
     ·rw [if_pos c4] at H; have c4b0 := eq_true c4; have c4b1 := decide_eq_true c4; (try have c4b2 : (9223372036854775807 < (strOfNums y144).size + x3_1.size) = False := eq_false (Nat.not_lt.2 c4)); have H' := Aside0.mk H; clear H; go_wp2_with (first | ((with_reducible refine gate_dst (N := 12) rfl ?_); refine Kd.R_lit (Kd.int .u8) _ 5 ?hg (N := 12) ?hd (xs := ([(wrap64 (48 + (Int.tmod x0_1 10))) % 256] : List Int)) (inner := [.int .u8 ((wrap64 (48 + (Int.tmod x0_1 10))) % 256)]) (ok := fun _ => True) (okp := fun _ => True) ?hr ?hp (fun _ hk => hk) trivial (Below.refl _ _) (Nat.le_refl _) (by simp) ?_; (case hd => rfl); (case hg => rfl); (case hr => first | (go_simp; done) | (go_simp; rfl)); (case hp => exact (Reps.one (show Kd.M (Kd.int .u8) _ _ _ ((wrap64 (48 + (Int.tmod x0_1 10))) % 256) [.int .u8 ((wrap64 (48 + (Int.tmod x0_1 10))) % 256)] from rfl) (Reps.none _ _))); intro v145 w5 ho6 hb hg_ hnew_; clear hg_ hnew_; (first | rw [← Ny144.out] at ho6 | (simp only [Int.reduceToNat] at ho6; rw [← Ny144.out] at ho6)); have HO146 := Aside0.mk (Kd.R_lower ho6 (below_size bz)); replace HB := Aside0.mk (below_step bz hb); clear hb ho6; have hcv7 := own_string (P := Try.prog) Try.underlying126 Try.underlying5 Try.underlying9 (Kd.own_of_R HO146.out)))
      go_roundg k1
      case measure => have := HK1.out; omega
      case rel => exact ⟨(wrap64 (Int.tdiv x0_1 10)), ((strOfNums y144) ++ x3_1), rz, rz, H', ⟨by have := HK1.out; omega⟩, ⟨bz⟩⟩
     ·rw [if_neg c4] at H
      exact absurd H (by simp)
    ·rw [if_neg c3] at H; have c3b0 := decide_eq_false c3; clear c3
     by_cases c8 : 1 + x3_1.size ≤ 9223372036854775807
     ·rw [if_pos c8] at H; have c8b0 := eq_true c8; have c8b1 := decide_eq_true c8; (try have c8b2 : (9223372036854775807 < 1 + x3_1.size) = False := eq_false (Nat.not_lt.2 c8)); obtain rfl := Option.some.inj H; go_wp2; go_ret
      exact ⟨ez, bz⟩
     ·rw [if_neg c8] at H
      exact absurd H (by simp)

end Go.Proofs.Ytdfehjfmihokpaa.PFnExactAllPieces
