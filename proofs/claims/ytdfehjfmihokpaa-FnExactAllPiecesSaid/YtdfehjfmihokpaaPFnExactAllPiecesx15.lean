-- Written by a program of this session's: the kit's print, turned (turnprint.py): functions, and that Go comes to just their answers.
import Derived.Test.YtdfehjfmihokpaaZ
import Derived.Test.YtdfehjfmihokpaaPFnExactAllPiecesx0
import Derived.Test.YtdfehjfmihokpaaPFnExactAllPiecesx13
import Derived.Test.YtdfehjfmihokpaaPFnExactAllPiecesx14
namespace Go.Proofs.Ytdfehjfmihokpaa.PFnExactAllPieces
open Go.RowKit Go.Proofs.YtdfehjfmihokpaaW.PrintWords Go.Proofs.YtdfehjfmihokpaaW.PrintLast Go.Proofs.YtdfehjfmihokpaaW.PrintMore Go.Proofs.YtdfehjfmihokpaaGeo Go.Proofs.YtdfehjfmihokpaaHand Go.Proofs.YtdfehjfmihokpaaMeet Go.Proofs.YtdfehjfmihokpaaQuiet Go.Proofs.YtdfehjfmihokpaaZ
attribute [local go_sem] max2_int min2_int max_two min_two max_three min_three max_four min_four   -- for this text's walks alone
set_option linter.unusedVariables false
set_option linter.unusedSimpArgs false

/-! ### spec_AllPieces: function 47 -/
mutual
def spec_AllPieces.l0 : Nat → List (S29) → List (S110) → Int → Option ((List (S110)))
 | 0, _, _, _ => none
 | k + 1, x0, x3, x4 => if x4 < (x0.length : Int) then ((spec_IsSource.f k x0).bind fun t248 => (spec_AllPieces.j1 k x0 x3 x4 t248)) else (spec_AllPieces.j1 k x0 x3 x4 false)
def spec_AllPieces.j1 : Nat → List (S29) → List (S110) → Int → Bool → Option ((List (S110)))
 | 0, _, _, _, _ => none
 | k + 1, x0, x3, x4, x15 => if x15 = true then (if 0 ≤ x4 then (if x4 < (x0.length : Int) then ((spec_PartsOf.f k ((rd_T29 x0 x4).f0) ((rd_T29 x0 x4).f1) ((rd_T29 x0 x4).f2) ((rd_T29 x0 x4).f3) ((rd_T29 x0 x4).f4)).bind fun t250 => (if ((rd_T29 x0 x4).f1) = 1 then (spec_AllPieces.j2 k x0 x3 x4 1) else (spec_AllPieces.j2 k x0 x3 x4 (t250.length : Int)))) else (none)) else (none)) else (some x3)
def spec_AllPieces.j2 : Nat → List (S29) → List (S110) → Int → Int → Option ((List (S110)))
 | 0, _, _, _, _ => none
 | k + 1, x0, x3, x4, x5 => spec_AllPieces.l1 k x0 x3 x4 x5 0
def spec_AllPieces.l1 : Nat → List (S29) → List (S110) → Int → Int → Int → Option ((List (S110)))
 | 0, _, _, _, _, _ => none
 | k + 1, x0, x3, x4, x5, x6 => if x6 < x5 then (if 0 ≤ x4 then (if x4 < (x0.length : Int) then (if x3.length < 8796093022208 then (spec_AllPieces.l1 k x0 (x3 ++ [(⟨(rd_T29 x0 x4).f0, x6⟩ : S110)]) x4 x5 (wrap64 (x6 + 1))) else (none)) else (none)) else (none)) else (spec_AllPieces.l0 k x0 x3 (wrap64 (x4 + 1)))
end
def spec_AllPieces.f (k : Nat) (l0 : List (S29)) : Option ((List (S110))) := spec_AllPieces.l0 k l0 (([] : List (S110))) 0
theorem spec_AllPieces.mono_l : ∀ k, (∀ y0 y1 y2, LeO (spec_AllPieces.l0 k y0 y1 y2) (spec_AllPieces.l0 (k + 1) y0 y1 y2)) ∧ (∀ y0 y1 y2 y3, LeO (spec_AllPieces.j1 k y0 y1 y2 y3) (spec_AllPieces.j1 (k + 1) y0 y1 y2 y3)) ∧ (∀ y0 y1 y2 y3, LeO (spec_AllPieces.j2 k y0 y1 y2 y3) (spec_AllPieces.j2 (k + 1) y0 y1 y2 y3)) ∧ (∀ y0 y1 y2 y3 y4, LeO (spec_AllPieces.l1 k y0 y1 y2 y3 y4) (spec_AllPieces.l1 (k + 1) y0 y1 y2 y3 y4))
 | 0 => ⟨fun _ _ _ r h => by simp [spec_AllPieces.l0] at h, fun _ _ _ _ r h => by simp [spec_AllPieces.j1] at h, fun _ _ _ _ r h => by simp [spec_AllPieces.j2] at h, fun _ _ _ _ _ r h => by simp [spec_AllPieces.l1] at h⟩
 | k + 1 => by
  obtain ⟨ih0, ih1, ih2, ih3⟩ := spec_AllPieces.mono_l k; refine ⟨?_, ?_, ?_, ?_⟩
  ·intro y0 y1 y2
   unfold spec_AllPieces.l0
   repeat' first | (with_reducible first | exact ih0 _ _ _ | exact ih1 _ _ _ _ | exact ih2 _ _ _ _ | exact ih3 _ _ _ _ _ | exact spec_IsSource.mono _ _ | exact spec_PartsOf.mono _ _ _ _ _ _ | exact LeO.refl _ | exact LeO.none _ | refine LeO.ite ?_ ?_ | refine LeO.bind ?_ (fun _ => ?_)) | exact ih0 _ _ _ | exact ih1 _ _ _ _ | exact ih2 _ _ _ _ | exact ih3 _ _ _ _ _ | exact spec_IsSource.mono _ _ | exact spec_PartsOf.mono _ _ _ _ _ _ | exact LeO.none _ | refine LeO.ite ?_ ?_ | refine LeO.bind ?_ (fun _ => ?_)
  ·intro y0 y1 y2 y3
   unfold spec_AllPieces.j1
   repeat' first | (with_reducible first | exact ih0 _ _ _ | exact ih1 _ _ _ _ | exact ih2 _ _ _ _ | exact ih3 _ _ _ _ _ | exact spec_IsSource.mono _ _ | exact spec_PartsOf.mono _ _ _ _ _ _ | exact LeO.refl _ | exact LeO.none _ | refine LeO.ite ?_ ?_ | refine LeO.bind ?_ (fun _ => ?_)) | exact ih0 _ _ _ | exact ih1 _ _ _ _ | exact ih2 _ _ _ _ | exact ih3 _ _ _ _ _ | exact spec_IsSource.mono _ _ | exact spec_PartsOf.mono _ _ _ _ _ _ | exact LeO.none _ | refine LeO.ite ?_ ?_ | refine LeO.bind ?_ (fun _ => ?_)
  ·intro y0 y1 y2 y3
   unfold spec_AllPieces.j2
   repeat' first | (with_reducible first | exact ih0 _ _ _ | exact ih1 _ _ _ _ | exact ih2 _ _ _ _ | exact ih3 _ _ _ _ _ | exact spec_IsSource.mono _ _ | exact spec_PartsOf.mono _ _ _ _ _ _ | exact LeO.refl _ | exact LeO.none _ | refine LeO.ite ?_ ?_ | refine LeO.bind ?_ (fun _ => ?_)) | exact ih0 _ _ _ | exact ih1 _ _ _ _ | exact ih2 _ _ _ _ | exact ih3 _ _ _ _ _ | exact spec_IsSource.mono _ _ | exact spec_PartsOf.mono _ _ _ _ _ _ | exact LeO.none _ | refine LeO.ite ?_ ?_ | refine LeO.bind ?_ (fun _ => ?_)
  ·intro y0 y1 y2 y3 y4
   unfold spec_AllPieces.l1
   repeat' first | (with_reducible first | exact ih0 _ _ _ | exact ih1 _ _ _ _ | exact ih2 _ _ _ _ | exact ih3 _ _ _ _ _ | exact spec_IsSource.mono _ _ | exact spec_PartsOf.mono _ _ _ _ _ _ | exact LeO.refl _ | exact LeO.none _ | refine LeO.ite ?_ ?_ | refine LeO.bind ?_ (fun _ => ?_)) | exact ih0 _ _ _ | exact ih1 _ _ _ _ | exact ih2 _ _ _ _ | exact ih3 _ _ _ _ _ | exact spec_IsSource.mono _ _ | exact spec_PartsOf.mono _ _ _ _ _ _ | exact LeO.none _ | refine LeO.ite ?_ ?_ | refine LeO.bind ?_ (fun _ => ?_)
theorem spec_AllPieces.mono : ∀ a0 k, LeO (spec_AllPieces.f k a0) (spec_AllPieces.f (k + 1) a0) := by
 intro a0 k; obtain ⟨ih0, ih1, ih2, ih3⟩ := spec_AllPieces.mono_l k
 unfold spec_AllPieces.f
 repeat' first | (with_reducible first | exact ih0 _ _ _ | exact ih1 _ _ _ _ | exact ih2 _ _ _ _ | exact ih3 _ _ _ _ _ | exact spec_IsSource.mono _ _ | exact spec_PartsOf.mono _ _ _ _ _ _ | exact LeO.refl _ | exact LeO.none _ | refine LeO.ite ?_ ?_ | refine LeO.bind ?_ (fun _ => ?_)) | exact ih0 _ _ _ | exact ih1 _ _ _ _ | exact ih2 _ _ _ _ | exact ih3 _ _ _ _ _ | exact spec_IsSource.mono _ _ | exact spec_PartsOf.mono _ _ _ _ _ _ | exact LeO.none _ | refine LeO.ite ?_ ?_ | refine LeO.bind ?_ (fun _ => ?_)
set_option maxHeartbeats 8000000 in
set_option maxRecDepth 100000 in
theorem spec_AllPieces.calls (k : Nat) (A0 : Option Addr) (c0 : Nat) (l0 : List (S29)) (r : List (S110)) (w : World) (hr0 : Kd.C k29 w A0 l0.length l0) (hc0 : l0.length ≤ c0) (h : spec_AllPieces.f k l0 = some r) :
  Calls Try.prog 47 #[.slice A0 l0.length c0] w fun e w' => ∃ v0_ : Value, e = .returned (v0_) ∧ Kd.R k110 110 w' w.heap.size (fun _ => True) v0_ r ∧ Below w.heap.size w w' := by
 have hu29 := Try.underlying29; have hu110 := Try.underlying110; have HR0 := Aside0.mk hr0; have HC0 := Aside0.mk hc0; clear hr0 hc0; have HB := Aside0.mk (Below.refl w.heap.size w); have H : (spec_AllPieces.l0 k l0 (([] : List (S110))) 0) = some r := h; clear h; obtain ⟨y245, hy245⟩ : ∃ y_ : List (S110), y_ = (([] : List (S110))) := ⟨_, rfl⟩
 replace H : (spec_AllPieces.l0 k l0 y245 0) = some r := by first | (rw [hy245]; with_reducible exact H) | (have H2_ := (Option.bind_some _ _).symm.trans H; rw [hy245]; with_reducible exact H2_) | (have H2_ := (Option.bind_some _ _).symm.trans H; with_reducible exact H2_) | with_reducible exact H | (rw [hy245]; exact H) | exact H
 have Ny245 := Aside0.mk hy245; clear hy245; have H' := Aside0.mk H; clear H
 go_enter Try.func47, Try.ntmps47; go_wp2_with (first | ((with_reducible refine gate_dst (N := 7) rfl ?_); refine Kd.R_lit k110 _ 110 ?hg (N := 7) ?hd (xs := ([] : List (S110))) (inner := []) (ok := fun _ => True) (okp := fun _ => True) ?hr ?hp (fun _ hk => hk) trivial (Below.refl _ _) (Nat.le_refl _) (by simp) ?_; (case hd => rfl); (case hg => rfl); (case hr => first | (go_simp; done) | (go_simp; rfl)); (case hp => exact (Reps.none _ _)); intro v246 w2 ho3 hb hg_ hnew_; clear hg_ hnew_; (first | rw [← Ny245.out] at ho3 | (simp only [Int.reduceToNat] at ho3; rw [← Ny245.out] at ho3)); have HO247 := Aside0.mk (Kd.R_lower ho3 (below_size bz)); replace HB := Aside0.mk (below_step bz hb); clear hb ho3))
 go_loopg [3, 4] k (fun kq v3 v4 w' => ∃ (x3_1 : List (S110)) (x4_1 : Int), v4 = .int .i64 x4_1 ∧ Aside0 (spec_AllPieces.l0 kq l0 x3_1 x4_1 = some r) ∧ Aside0 (kq ≤ k) ∧ Aside0 (Kd.R k110 110 w' w.heap.size (fun _ => True) v3 x3_1) ∧ Aside0 (Below w.heap.size w w'))
 case atStart => exact ⟨(y245), (0), rz, H', ⟨Nat.le_refl _⟩, ⟨hr HO247.out⟩, ⟨bz⟩⟩
 case round =>
  clear H'; (try clear p2); obtain ⟨x3_1, x4_1, rfl, HA, HK1, HO_3, HB⟩ := hrel
  cases gk with
  | zero => exact absurd HA.out (by simp [spec_AllPieces.l0])
  | succ k1 =>
   have H := HA.out; clear HA; simp only [spec_AllPieces.l0] at H; have HC4 := Aside0.mk H; clear H
   go_upto_region 3 with (fail)
   go_cut [15] (fun v15 wc => ∃ (kq : Nat) (x15_3 : Bool), v15 = .bool x15_3 ∧ Aside0 (spec_AllPieces.j1 kq l0 x3_1 x4_1 x15_3 = some r) ∧ Aside0 (kq ≤ k1) ∧ Aside0 (Kd.R k110 110 wc w.heap.size (fun _ => True) u3 x3_1) ∧ Aside0 (Below w.heap.size w wc))
   case first =>
    have H := HC4.out; clear HC4
    by_cases c5 : x4_1 < (l0.length : Int)
    ·rw [if_pos c5] at H; have c5b0 := decide_eq_true c5; clear c5
     (first | rw [c5b0] | (simp only [i64_w, i32_w]; rw [c5b0]) | skip)
     replace H := Option.bind_eq_some_iff.mp H; obtain ⟨t248, A60, H⟩ := H; have A6 := Aside0.mk A60; clear A60; have H' := Aside0.mk H; clear H; go_wp2_with (first | (go_at_call 83; (with_reducible refine (spec_IsSource.calls k1 _ _ l0 t248 _ ?side1 ?side2 A6.out).mono ?_); (case side1 => exact cz0); (case side2 => exact HC0.out); rintro e w7 ⟨rfl, hb⟩; replace HO_3 := Aside0.mk (rbz HO_3 hb); replace HB := Aside0.mk (below_step bz hb); (try clear hb)))
     go_meet
     case rel => exact ⟨_, (t248), rz, H', ⟨by have := HK1.out; first | omega | exact Nat.le_refl _⟩, ⟨hr HO_3.out⟩, ⟨bz⟩⟩
    ·rw [if_neg c5] at H; have c5b0 := decide_eq_false c5; clear c5
     (first | rw [c5b0] | (simp only [i64_w, i32_w]; rw [c5b0]) | skip)
     have H' := Aside0.mk H; clear H; go_wp2
     go_meet
     case rel => exact ⟨_, (false), rz, H', ⟨by have := HK1.out; first | omega | exact Nat.le_refl _⟩, ⟨hr HO_3.out⟩, ⟨bz⟩⟩
   case rest =>
    clear HC4; (try clear p2); (try clear c4); (try clear c5); (try clear c5b0); (try clear p2); obtain ⟨kq, x15_3, rfl, HA, HJ3, HO_3, HB⟩ := hcut
    cases kq with
    | zero => exact absurd HA.out (by simp [spec_AllPieces.j1])
    | succ kj3 =>
     have H := HA.out; clear HA; simp only [spec_AllPieces.j1] at H
     by_cases c8 : x15_3 = true
     ·subst c8; replace H := ift H
      by_cases c9 : 0 ≤ x4_1
      ·rw [if_pos c9] at H; have c9b0 := decide_eq_true c9; clear c9
       by_cases c10 : x4_1 < (l0.length : Int)
       ·rw [if_pos c10] at H; have c10b0 := decide_eq_true c10; clear c10; replace H := Option.bind_eq_some_iff.mp H; obtain ⟨t250, A110, H⟩ := H; have A11 := Aside0.mk A110; clear A110; have HC12 := Aside0.mk H; clear H; have p249 : 0 ≤ (x4_1 : Int) := of_decide_eq_true az; have q249 : x4_1 < (l0.length : Int) := of_decide_eq_true az; obtain ⟨ad249, A249_4, c249_4, e249, hx249_0, hx249_1, hx249_2, hx249_3, hx249_4, hl249_4, hi249_4⟩ := at_T29 HR0.out x4_1 p249 q249
        cases e249
        replace hx249_0 := xz HB hx249_0; replace hx249_1 := xz HB hx249_1; replace hx249_2 := xz HB hx249_2; replace hx249_3 := xz HB hx249_3; replace hx249_4 := xz HB hx249_4; have HR249_4 := Aside0.mk hi249_4; have HC249_4 := Aside0.mk hl249_4; clear hi249_4 hl249_4; replace p249 := eq_true p249; replace q249 := eq_true q249
        go_upto_if 29 with (first | ((with_reducible refine gt (some 22) rfl ?_); refine gc Try.func69 (spec_PartsOf.calls kj3 ((rd_T29 l0 x4_1).f0) ((rd_T29 l0 x4_1).f1) ((rd_T29 l0 x4_1).f2) ((rd_T29 l0 x4_1).f3) _ _ ((rd_T29 l0 x4_1).f4) t250 _ (cz (Kd.C_below HR249_4.out HB.out)) HC249_4.out A11.out) ?_; rintro e w13 ⟨v251, rfl, ho0, hb⟩; refine ⟨_, rfl, ?_⟩; replace HO_3 := Aside0.mk (rbz HO_3 hb); have HO252 := Aside0.mk (Kd.R_lower ho0 (below_size bz)); replace HB := Aside0.mk (below_step bz hb); (try clear hb); (try clear ho0); obtain ⟨Ao14, co14, eo14⟩ := Kd.R_slice HO252.out; subst eo14; have p253 : 0 ≤ (x4_1 : Int) := of_decide_eq_true az; have q253 : x4_1 < (l0.length : Int) := of_decide_eq_true az; obtain ⟨ad253, A253_4, c253_4, e253, hx253_0, hx253_1, hx253_2, hx253_3, hx253_4, hl253_4, hi253_4⟩ := at_T29 HR0.out x4_1 p253 q253; obtain rfl : ad249 = ad253 := (by injection e253); replace hx253_0 := xz HB hx253_0; replace hx253_1 := xz HB hx253_1; replace hx253_2 := xz HB hx253_2; replace hx253_3 := xz HB hx253_3; replace hx253_4 := xz HB hx253_4; have HR253_4 := Aside0.mk hi253_4; have HC253_4 := Aside0.mk hl253_4; clear hi253_4 hl253_4; replace p253 := eq_true p253; replace q253 := eq_true q253))
        (try simp only [Act.put, List.setIfInBounds_toArray, List.set_cons_zero, List.set_cons_succ])
        go_cut [5] (fun v5 wc => ∃ (kq : Nat) (x5_11 : Int), v5 = .int .i64 x5_11 ∧ Aside0 (spec_AllPieces.j2 kq l0 x3_1 x4_1 x5_11 = some r) ∧ Aside0 (kq ≤ kj3) ∧ Aside0 (Kd.R k110 110 wc w.heap.size (fun _ => True) u3 x3_1) ∧ Aside0 (Below w.heap.size w wc))
        case first =>
         have H := HC12.out; clear HC12
         by_cases c15 : ((rd_T29 l0 x4_1).f1) = 1
         ·rw [if_pos c15] at H; have c15b0 : (((rd_T29 l0 x4_1).f1) == 1) = true := beq_iff_eq.mpr c15; have c15b1 : (((rd_T29 l0 x4_1).f1) != 1) = false := bne_eq_false_iff_eq.mpr c15; clear c15
          (first | rw [c15b0] | (simp only [i64_w, i32_w]; rw [c15b0]) | skip)
          have H' := Aside0.mk H; clear H; go_wp2
          go_meet
          case rel => exact ⟨_, (1), rz, H', ⟨by have := HK1.out; have := HJ3.out; first | omega | exact Nat.le_refl _⟩, ⟨hr HO_3.out⟩, ⟨bz⟩⟩
         ·rw [if_neg c15] at H; have c15b0 : (((rd_T29 l0 x4_1).f1) == 1) = false := beq_eq_false_iff_ne.mpr c15; have c15b1 : (((rd_T29 l0 x4_1).f1) != 1) = true := bne_iff_ne.mpr c15
          (first | rw [c15b0] | (simp only [i64_w, i32_w]; rw [c15b0]) | skip)
          have H' := Aside0.mk H; clear H; go_wp2
          go_meet
          case rel => exact ⟨_, ((t250.length : Int)), rz, H', ⟨by have := HK1.out; have := HJ3.out; first | omega | exact Nat.le_refl _⟩, ⟨hr HO_3.out⟩, ⟨bz⟩⟩
        case rest =>
         clear HC12; (try clear c1); (try clear c2); (try clear p2); (try clear q2); (try clear hx2); (try clear c4); (try clear c5); (try clear c5b0); (try clear c6); (try clear c8); (try clear c9); (try clear c9b0); (try clear c10); (try clear c10b0); (try clear c15); (try clear c15b0); (try clear c15b1); (try clear hx249_0); (try clear hx249_1); (try clear hx249_2); (try clear hx249_3); (try clear hx249_4); (try clear hx253_0); (try clear hx253_1); (try clear hx253_2); (try clear hx253_3); (try clear hx253_4); (try clear p2); (try clear p249); (try clear p253); (try clear q249); (try clear q253); obtain ⟨kq, x5_11, rfl, HA, HJ11, HO_3, HB⟩ := hcut
         cases kq with
         | zero => exact absurd HA.out (by simp [spec_AllPieces.j2])
         | succ kj11 =>
          have H := HA.out; clear HA; simp only [spec_AllPieces.j2] at H; have H' := Aside0.mk H; clear H; go_wp2
          go_loopg [3, 6] kj11 (fun kq v3 v6 w' => ∃ (x3_4 : List (S110)) (x6_4 : Int), v6 = .int .i64 x6_4 ∧ Aside0 (spec_AllPieces.l1 kq l0 x3_4 x4_1 x5_11 x6_4 = some r) ∧ Aside0 (kq ≤ kj11) ∧ Aside0 (Kd.R k110 110 w' w.heap.size (fun _ => True) v3 x3_4) ∧ Aside0 (Below w.heap.size w w'))
          case atStart => exact ⟨(x3_1), (0), rz, H', ⟨Nat.le_refl _⟩, ⟨hr HO_3.out⟩, ⟨bz⟩⟩
          case round =>
           clear H'; (try clear c1); (try clear c2); (try clear p2); (try clear q2); (try clear hx2); (try clear c4); (try clear c5); (try clear c5b0); (try clear c6); (try clear c8); (try clear c9); (try clear c9b0); (try clear c10); (try clear c10b0); (try clear c15); (try clear c15b0); (try clear c15b1); (try clear hx249_0); (try clear hx249_1); (try clear hx249_2); (try clear hx249_3); (try clear hx249_4); (try clear hx253_0); (try clear hx253_1); (try clear hx253_2); (try clear hx253_3); (try clear hx253_4); (try clear p2); (try clear p249); (try clear p253); (try clear q2); (try clear q249); (try clear q253); obtain ⟨x3_4, x6_4, rfl, HA, HK4, HO_3, HB⟩ := hrel
           cases gk with
           | zero => exact absurd HA.out (by simp [spec_AllPieces.l1])
           | succ k4 =>
            have H := HA.out; clear HA; simp only [spec_AllPieces.l1] at H
            by_cases c16 : x6_4 < x5_11
            ·rw [if_pos c16] at H; have c16b0 := decide_eq_true c16; clear c16
             by_cases c17 : 0 ≤ x4_1
             ·rw [if_pos c17] at H; have c17b0 := decide_eq_true c17; clear c17
              by_cases c18 : x4_1 < (l0.length : Int)
              ·rw [if_pos c18] at H; have c18b0 := decide_eq_true c18; clear c18
               by_cases c19 : x3_4.length < 8796093022208
               ·rw [if_pos c19] at H; have LMc19 := Aside0.mk c19; clear c19; obtain ⟨y255, hy255⟩ : ∃ y_ : List (S110), y_ = (x3_4 ++ [(⟨(rd_T29 l0 x4_1).f0, x6_4⟩ : S110)]) := ⟨_, rfl⟩
                replace H : (spec_AllPieces.l1 k4 l0 y255 x4_1 x5_11 (wrap64 (x6_4 + 1))) = some r := by first | (rw [hy255]; with_reducible exact H) | (have H2_ := (Option.bind_some _ _).symm.trans H; rw [hy255]; with_reducible exact H2_) | (have H2_ := (Option.bind_some _ _).symm.trans H; with_reducible exact H2_) | with_reducible exact H | (rw [hy255]; exact H) | exact H
                have Ny255 := Aside0.mk hy255; clear hy255; have H' := Aside0.mk H; clear H; have p254 : 0 ≤ (x4_1 : Int) := of_decide_eq_true az; have q254 : x4_1 < (l0.length : Int) := of_decide_eq_true az; obtain ⟨ad254, A254_4, c254_4, e254, hx254_0, hx254_1, hx254_2, hx254_3, hx254_4, hl254_4, hi254_4⟩ := at_T29 HR0.out x4_1 p254 q254; obtain rfl : ad249 = ad254 := (by injection e254)
                replace hx254_0 := xz HB hx254_0; replace hx254_1 := xz HB hx254_1; replace hx254_2 := xz HB hx254_2; replace hx254_3 := xz HB hx254_3; replace hx254_4 := xz HB hx254_4; have HR254_4 := Aside0.mk hi254_4; have HC254_4 := Aside0.mk hl254_4; clear hi254_4 hl254_4; replace p254 := eq_true p254; replace q254 := eq_true q254; go_wp2_with (first | ((with_reducible refine gate_builtin (b := .append) (xs := #[.tmp 35, .tmp 43]) rfl ?_); at_builtin; refine Kd.R_append k110 (w0 := w) w.heap.size rfl (.tmp 35) (.tmp 43) 64 110 (.agg #[(.int .i64 0), (.int .i64 0)]) 16 rfl Try.underlying64 info110 rfl (by decide) (by omega) u3 x3_4 (⟨(rd_T29 l0 x4_1).f0, x6_4⟩ : S110) [.int .i64 ((rd_T29 l0 x4_1).f0), .int .i64 x6_4] (fun _ => True) (fun _ => False) rfl rfl ?aP (fun _ hk => hk.elim) ?aF ?aO ?aB ?aS ?aL ?_; (case aP => exact k110_mkM _ _ _ (⟨(rd_T29 l0 x4_1).f0, x6_4⟩ : S110)); (case aB => exact bz); (case aF => exact (fun _ _ => trivial)); (case aO => exact (hr HO_3.out)); (case aS => exact (below_size bz)); (case aL => have := LMc19.out; omega); intro v256 w20 ho hb hg hat; rw [← Ny255.out] at ho; have n0_ := Aside0.mk (hb); have n1_ := Aside0.mk (ho); clear HB; clear HO_3; have HB := n0_; have HO257 := n1_; clear n0_ n1_; clear ho hb hg hat))
                go_roundg k4
                case measure => have := HK1.out; have := HJ3.out; have := HJ11.out; have := HK4.out; omega
                case rel => exact ⟨(y255), (wrap64 (x6_4 + 1)), rz, H', ⟨by have := HK1.out; have := HJ3.out; have := HJ11.out; have := HK4.out; omega⟩, ⟨hr HO257.out⟩, ⟨bz⟩⟩
               ·rw [if_neg c19] at H
                exact absurd H (by simp)
              ·rw [if_neg c18] at H
               exact absurd H (by simp)
             ·rw [if_neg c17] at H
              exact absurd H (by simp)
            ·rw [if_neg c16] at H; have c16b0 := decide_eq_false c16; clear c16; have H' := Aside0.mk H; clear H; go_wp2
             go_roundg k4
             case measure => have := HK1.out; have := HJ3.out; have := HJ11.out; have := HK4.out; omega
             case rel => exact ⟨(x3_4), (wrap64 (x4_1 + 1)), rz, H', ⟨by have := HK1.out; have := HJ3.out; have := HJ11.out; have := HK4.out; omega⟩, ⟨hr HO_3.out⟩, ⟨bz⟩⟩
       ·rw [if_neg c10] at H
        exact absurd H (by simp)
      ·rw [if_neg c9] at H
       exact absurd H (by simp)
     ·replace c8 := Bool.eq_false_iff.mpr c8; subst c8; replace H := iff_ H; obtain rfl := Option.some.inj H; go_wp2; go_ret
      exact ⟨_, ez, hr HO_3.out, bz⟩

/-! ### impl_InRange: function 112 -/
theorem impl_InRange.any (a0 : Int) (a1 : Int) (a2 : Int) (w : World) :
    Calls Try.prog 112 #[.int .i64 a0, .int .i64 a1, .int .i64 a2] w fun e w' => e = .returned (.bool (inR a0 a1 a2)) ∧ w = w' := by
  go_enter Try.func112, Try.ntmps112; go_wp2
  all_goals (go_ret; refine ⟨?_, rfl⟩; congr 2; first | (simp [inR, *]; done) | (simp [inR, *] <;> omega) | (unfold inR; repeat' split <;> first | rfl | omega))
def impl_InRange.f (a0 : Int) (a1 : Int) (a2 : Int) : Option (Bool) := some (inR a0 a1 a2)
theorem impl_InRange.calls (a0 : Int) (a1 : Int) (a2 : Int) (r : Bool) (w : World) (h : impl_InRange.f a0 a1 a2 = some r) :
    Calls Try.prog 112 #[.int .i64 a0, .int .i64 a1, .int .i64 a2] w fun e w' => e = .returned (.bool (r)) ∧ ∃ nd_ : Nat, w = w' := by
  obtain rfl := Option.some.inj h
  exact (impl_InRange.any a0 a1 a2 w).mono fun e w' ⟨he, hw⟩ => ⟨he, 0, hw⟩
/-! ### impl_around: function 150 -/
def impl_around.l0 : Nat → List (S82) → List (S85) → List (S82) → Int → Int → Option ((List (S85)))
 | 0, _, _, _, _, _ => none
 | k + 1, x0, x3, x7, x8, x9 => if x9 < x8 then (if 0 ≤ x9 then (if x9 < (x7.length : Int) then (if (x0.length : Int) = 0 then (none) else (if 0 ≤ (Int.tmod (wrap64 (x9 + 1)) (x0.length : Int)) then (if (Int.tmod (wrap64 (x9 + 1)) (x0.length : Int)) < (x0.length : Int) then (if x3.length < 4398046511104 then (impl_around.l0 k x0 (x3 ++ [(⟨(⟨(rd_T82 x7 x9).f0, (rd_T82 x7 x9).f1⟩ : S82), (⟨(rd_T82 x0 (Int.tmod (wrap64 (x9 + 1)) (x0.length : Int))).f0, (rd_T82 x0 (Int.tmod (wrap64 (x9 + 1)) (x0.length : Int))).f1⟩ : S82)⟩ : S85)]) x7 x8 (wrap64 (x9 + 1))) else (none)) else (none)) else (none))) else (none)) else (none)) else (some x3)
def impl_around.f (k : Nat) (l0 : List (S82)) : Option ((List (S85))) := impl_around.l0 k l0 (([] : List (S85))) l0 (l0.length : Int) 0
theorem impl_around.mono_l : ∀ k, (∀ y0 y1 y2 y3 y4, LeO (impl_around.l0 k y0 y1 y2 y3 y4) (impl_around.l0 (k + 1) y0 y1 y2 y3 y4))
 | 0 => fun _ _ _ _ _ r h => by simp [impl_around.l0] at h
 | k + 1 => by
  have ih0 := impl_around.mono_l k
  ·intro y0 y1 y2 y3 y4
   unfold impl_around.l0
   repeat' first | (with_reducible first | exact ih0 _ _ _ _ _ | exact LeO.refl _ | exact LeO.none _ | refine LeO.ite ?_ ?_ | refine LeO.bind ?_ (fun _ => ?_)) | exact ih0 _ _ _ _ _ | exact LeO.none _ | refine LeO.ite ?_ ?_ | refine LeO.bind ?_ (fun _ => ?_)
theorem impl_around.mono : ∀ a0 k, LeO (impl_around.f k a0) (impl_around.f (k + 1) a0) := by
 intro a0 k; have ih0 := impl_around.mono_l k
 unfold impl_around.f
 repeat' first | (with_reducible first | exact ih0 _ _ _ _ _ | exact LeO.refl _ | exact LeO.none _ | refine LeO.ite ?_ ?_ | refine LeO.bind ?_ (fun _ => ?_)) | exact ih0 _ _ _ _ _ | exact LeO.none _ | refine LeO.ite ?_ ?_ | refine LeO.bind ?_ (fun _ => ?_)
def impl_around.T5 : Bool × List (List Nat × List Nat) := (true, [([], []), ([], []), ([], []), ([], []), ([3], [3]), ([], []), ([5], [5]), ([4, 6], [4, 6]), ([2, 7], [2, 7]), ([8], [8]), ([1, 9], [1, 9]), ([10], [10]), ([0, 11], [0, 11]), ([12, 12, 0, 1, 2, 3, 4, 5, 6, 7, 8, 9, 10, 11, 12], [0, 12])])
def impl_around.B5 : List Nat := [0, 0, 0, 0, 8, 0, 32, 120, 252, 508, 1022, 2046, 4095, 8191]
theorem impl_around.tab5 : rtab .any (opsOf Try.f150 5) = impl_around.T5 := by kernel_rfl
theorem impl_around.bits5 : waitsOk impl_around.T5.2 impl_around.B5 = true := by kernel_rfl
set_option maxHeartbeats 8000000 in
set_option maxRecDepth 100000 in
theorem impl_around.calls (k : Nat) (A0 : Option Addr) (c0 : Nat) (l0 : List (S82)) (r : List (S85)) (w : World) (hr0 : Kd.C k82 w A0 l0.length l0) (hc0 : l0.length ≤ c0) (h : impl_around.f k l0 = some r) :
  Calls Try.prog 150 #[.slice A0 l0.length c0] w fun e w' => ∃ v0_ : Value, e = .returned (v0_) ∧ Kd.R k85 85 w' w.heap.size (fun _ => True) v0_ r ∧ Below w.heap.size w w' := by
 have hu82 := Try.underlying82; have hu85 := Try.underlying85; have HR0 := Aside0.mk hr0; have HC0 := Aside0.mk hc0; clear hr0 hc0; have HB := Aside0.mk (Below.refl w.heap.size w); have H : (impl_around.l0 k l0 (([] : List (S85))) l0 (l0.length : Int) 0) = some r := h; clear h; obtain ⟨y258, hy258⟩ : ∃ y_ : List (S85), y_ = (([] : List (S85))) := ⟨_, rfl⟩
 replace H : (impl_around.l0 k l0 y258 l0 (l0.length : Int) 0) = some r := by first | (rw [hy258]; with_reducible exact H) | (have H2_ := (Option.bind_some _ _).symm.trans H; rw [hy258]; with_reducible exact H2_) | (have H2_ := (Option.bind_some _ _).symm.trans H; with_reducible exact H2_) | with_reducible exact H | (rw [hy258]; exact H) | exact H
 have Ny258 := Aside0.mk hy258; clear hy258; have H' := Aside0.mk H; clear H
 go_enter Try.func150, Try.ntmps150; go_wp2_with (first | ((with_reducible refine gate_dst (N := 6) rfl ?_); refine Kd.R_lit k85 _ 85 ?hg (N := 6) ?hd (xs := ([] : List (S85))) (inner := []) (ok := fun _ => True) (okp := fun _ => True) ?hr ?hp (fun _ hk => hk) trivial (Below.refl _ _) (Nat.le_refl _) (by simp) ?_; (case hd => rfl); (case hg => rfl); (case hr => first | (go_simp; done) | (go_simp; rfl)); (case hp => exact (Reps.none _ _)); intro v259 w2 ho3 hb hg_ hnew_; clear hg_ hnew_; (first | rw [← Ny258.out] at ho3 | (simp only [Int.reduceToNat] at ho3; rw [← Ny258.out] at ho3)); have HO260 := Aside0.mk (Kd.R_lower ho3 (below_size bz)); replace HB := Aside0.mk (below_step bz hb); clear hb ho3))
 go_loopg [3, 9] k (fun kq v3 v9 w' => ∃ (x3_1 : List (S85)) (x9_1 : Int), v9 = .int .i64 x9_1 ∧ Aside0 (impl_around.l0 kq l0 x3_1 l0 (l0.length : Int) x9_1 = some r) ∧ Aside0 (kq ≤ k) ∧ Aside0 (Kd.R k85 85 w' w.heap.size (fun _ => True) v3 x3_1) ∧ Aside0 (Below w.heap.size w w'))
 case atStart => exact ⟨(y258), (0), rz, H', ⟨Nat.le_refl _⟩, ⟨hr HO260.out⟩, ⟨bz⟩⟩
 case round =>
  clear H'; (try clear c1); (try clear p2); obtain ⟨x3_1, x9_1, rfl, HA, HK1, HO_3, HB⟩ := hrel
  cases gk with
  | zero => exact absurd HA.out (by simp [impl_around.l0])
  | succ k1 =>
   have H := HA.out; clear HA; simp only [impl_around.l0] at H
   by_cases c4 : x9_1 < (l0.length : Int)
   ·rw [if_pos c4] at H; have c4b0 := decide_eq_true c4; clear c4
    by_cases c5 : 0 ≤ x9_1
    ·rw [if_pos c5] at H; have c5b0 := decide_eq_true c5; clear c5
     by_cases c6 : x9_1 < (l0.length : Int)
     ·rw [if_pos c6] at H; have c6b0 := decide_eq_true c6; clear c6
      by_cases c7 : (l0.length : Int) = 0
      ·rw [if_pos c7] at H
       exact absurd H (by simp)
      ·rw [if_neg c7] at H; have c7b0 : ((l0.length : Int) == 0) = false := beq_eq_false_iff_ne.mpr c7; have c7b1 : ((l0.length : Int) != 0) = true := bne_iff_ne.mpr c7; have c7b2 : ¬ (l0 = []) := fun h_ => c7 (by rw [h_]; rfl)
       obtain ⟨ji8, hji8⟩ : ∃ j_ : Int, (Int.tmod (wrap64 (x9_1 + 1)) (l0.length : Int)) = j_ := ⟨_, rfl⟩
       replace H : (if 0 ≤ (ji8) then (if (ji8) < (l0.length : Int) then (if x3_1.length < 4398046511104 then (impl_around.l0 k1 l0 (x3_1 ++ [(⟨(⟨(rd_T82 l0 x9_1).f0, (rd_T82 l0 x9_1).f1⟩ : S82), (⟨(rd_T82 l0 (ji8)).f0, (rd_T82 l0 (ji8)).f1⟩ : S82)⟩ : S85)]) l0 (l0.length : Int) (wrap64 (x9_1 + 1))) else (none)) else (none)) else (none)) = some r := by first | (rw [hji8] at H; exact H) | (simp only [hji8] at H ⊢; exact H)
       by_cases c9 : 0 ≤ (ji8)
       ·rw [if_pos c9] at H; have c9b0 := decide_eq_true c9; clear c9
        by_cases c10 : (ji8) < (l0.length : Int)
        ·rw [if_pos c10] at H; have c10b0 := decide_eq_true c10; clear c10
         by_cases c11 : x3_1.length < 4398046511104
         ·rw [if_pos c11] at H; have LMc11 := Aside0.mk c11; clear c11; obtain ⟨y264, hy264⟩ : ∃ y_ : List (S85), y_ = (x3_1 ++ [(⟨(⟨(rd_T82 l0 x9_1).f0, (rd_T82 l0 x9_1).f1⟩ : S82), (⟨(rd_T82 l0 (ji8)).f0, (rd_T82 l0 (ji8)).f1⟩ : S82)⟩ : S85)]) := ⟨_, rfl⟩
          replace H : (impl_around.l0 k1 l0 y264 l0 (l0.length : Int) (wrap64 (x9_1 + 1))) = some r := by first | (rw [hy264]; with_reducible exact H) | (have H2_ := (Option.bind_some _ _).symm.trans H; rw [hy264]; with_reducible exact H2_) | (have H2_ := (Option.bind_some _ _).symm.trans H; with_reducible exact H2_) | with_reducible exact H | (rw [hy264]; exact H) | exact H
          have Ny264 := Aside0.mk hy264; clear hy264; have H' := Aside0.mk H; clear H; have p261 : 0 ≤ (x9_1 : Int) := of_decide_eq_true az; have q261 : x9_1 < (l0.length : Int) := of_decide_eq_true az; obtain ⟨ad261, e261, hx261_0, hx261_1⟩ := at_T82 HR0.out x9_1 p261 q261
          cases e261
          replace hx261_0 := xz HB hx261_0; replace hx261_1 := xz HB hx261_1; replace p261 := eq_true p261; replace q261 := eq_true q261; (try go_wp2_with (first | ((with_reducible refine gt (some 5) rfl ?_); refine bx #[.int .i64 0, .int .i64 0] 82 ?_; intro gb262 hg w12 hbox hb; replace HO_3 := Aside0.mk (rbz HO_3 hb); have BK262 := Aside0.mk (hbox); have GW262 := Aside0.mk (gez HB hg); have GE262 := Aside0.mk (gez HB hg); replace HB := Aside0.mk (below_step bz hb); clear hb hbox hg; obtain ⟨hcz13_0, hcz13_1, hfz13_0, hfz13_1⟩ := cells2 BK262))); have n0_ : Aside0 (Kd.R k85 85 ((w12.setCell ⟨gb262, 0, none⟩ (.int .i64 ((rd_T82 l0 x9_1).f0))).setCell ⟨gb262, 1, none⟩ (.int .i64 ((rd_T82 l0 x9_1).f1))) w.heap.size (fun _ => True) u3 x3_1) := ⟨hr (Kd.R_mono (Kd.R_far (p := ⟨gb262, 1, none⟩) (Kd.R_far (p := ⟨gb262, 0, none⟩) (Kd.R_types HO_3.out BK262.out (by decide)) (fun _ hk => hk.2) (.int .i64 ((rd_T82 l0 x9_1).f0))) (fun _ hk => hk.2) (.int .i64 ((rd_T82 l0 x9_1).f1))) (fun _ hk => trivial))⟩
          have n1_ : Aside0 (((w12.setCell ⟨gb262, 0, none⟩ (.int .i64 ((rd_T82 l0 x9_1).f0))).setCell ⟨gb262, 1, none⟩ (.int .i64 ((rd_T82 l0 x9_1).f1))).heap[gb262]? = some (.cells #[.int .i64 ((rd_T82 l0 x9_1).f0), .int .i64 ((rd_T82 l0 x9_1).f1)] 82 (0, 0))) := ⟨by (with_reducible repeat (first | refine blk_drewN ?_ _ | refine blk_drew ?_ | refine blk_alloc ?_ _)); refine blk_put (cs := #[.int .i64 ((rd_T82 l0 x9_1).f0), .int .i64 0]) ?_ 1 _ rfl; (with_reducible repeat (first | refine blk_drewN ?_ _ | refine blk_drew ?_ | refine blk_alloc ?_ _)); refine blk_put (cs := #[.int .i64 0, .int .i64 0]) ?_ 0 _ rfl; (with_reducible repeat (first | refine blk_drewN ?_ _ | refine blk_drew ?_ | refine blk_alloc ?_ _)); exact BK262.out⟩
          have n2_ : Aside0 (Below w.heap.size w ((w12.setCell ⟨gb262, 0, none⟩ (.int .i64 ((rd_T82 l0 x9_1).f0))).setCell ⟨gb262, 1, none⟩ (.int .i64 ((rd_T82 l0 x9_1).f1)))) := ⟨bzs⟩
          (try clear HO_3); (try clear BK262); (try clear HB); generalize ((w12.setCell ⟨gb262, 0, none⟩ (.int .i64 ((rd_T82 l0 x9_1).f0))).setCell ⟨gb262, 1, none⟩ (.int .i64 ((rd_T82 l0 x9_1).f1))) = w14 at n0_ n1_ n2_ ⊢; have HO_3 := n0_; have BK262 := n1_; have HB := n2_; clear n0_ n1_ n2_; replace HO_3 := Aside0.mk (Kd.R_drew HO_3.out); replace BK262 := Aside0.mk (blk_drew BK262.out); replace HB := Aside0.mk (below_drew1 HB.out); have p263 : 0 ≤ ((ji8) : Int) := of_decide_eq_true az; have q263 : (ji8) < (l0.length : Int) := of_decide_eq_true az; obtain ⟨ad263, e263, hx263_0, hx263_1⟩ := at_T82 HR0.out (ji8) p263 q263; have hw263_1 := hx263_1; have hw263_0 := hx263_0; obtain rfl : ad261 = ad263 := (by injection e263)
          replace hx263_0 := xz HB hx263_0; replace hx263_1 := xz HB hx263_1; replace p263 := eq_true p263; replace q263 := eq_true q263; refine start_ (n := 14) (S := fun w' => w'.cell? ⟨gb262, 0, none⟩ = some (.int .i64 ((rd_T82 l0 x9_1).f0)) ∧ w'.cell? ⟨gb262, 1, none⟩ = some (.int .i64 ((rd_T82 l0 x9_1).f1)) ∧ w'.cell? (ad261.add (((ji8)).toNat * 2)) = some (.int .i64 ((rd_T82 l0 (ji8)).f0)) ∧ w'.cell? ⟨(ad261.add (((ji8)).toNat * 2)).block, (ad261.add (((ji8)).toNat * 2)).off + 1, none⟩ = some (.int .i64 ((rd_T82 l0 (ji8)).f1))) (ds := []) #[F,F,F,F,F,F,F,F,F,F,F,F,F,F] (by kernel_rfl) rfl rfl ⟨bc BK262 0, bc BK262 1, (xz HB hw263_0 :), (xz HB hw263_1 :)⟩ (fun hHeld => ?_); refine with_tabW impl_around.tab5 impl_around.bits5 (fun HT_ HW_ => ?_); generalize w14.drew = w15 at HO_3 BK262 HB hx263_0 hx263_1 hHeld ⊢; refine pz HT_ 0 14 ?_; refine pz HT_ 2 16 ?_; refine pz HT_ 3 17 ?_; refine pz HT_ 4 18 ?_; refine pz HT_ 5 19 ?_; refine pz HT_ 6 20 ?_; refine pz HT_ 7 21 ?_; refine pz HT_ 8 22 ?_; refine tz4 HT_ HW_ hHeld 1 15 ?_; refine tz4 HT_ HW_ hHeld 9 23 ?_; refine pz HT_ 10 24 ?_; refine oz HT_ 11 (some 25) (fun K hK => ?_); refine value_ (w1 := ?_) (v := ?_) (by rfl) rfl ?_ ?_; rotate_left 2
          ·go_simp
           constructor
           ·rfl
           ·rfl
          refine hK.out _ _ ⟨(blk_cell (blk_alloc BK262.out _) 0).trans rfl, (blk_cell (blk_alloc BK262.out _) 1).trans rfl, (World.cell?_alloc_lt _ _ _ (World.block_lt_of_cell? _ _ ((xz HB hw263_0 :)))).trans ((xz HB hw263_0 :)), (World.cell?_alloc_lt _ _ _ (World.block_lt_of_cell? _ _ ((xz HB hw263_1 :)))).trans ((xz HB hw263_1 :))⟩ (fun hHeld => ?_); clear hK K; refine nz 25 ?_; refine oz HT_ 12 (some 26) (fun K hK => ?_); refine Kd.R_append_step k85 (w0 := w) w.heap.size (by rfl) (.tmp 14) (.tmp 25) 78 85 (.agg #[(.int .i64 0), (.int .i64 0), (.int .i64 0), (.int .i64 0)]) 32 rfl Try.underlying78 info85 rfl (by decide) (by omega) u3 x3_1 (⟨(⟨(rd_T82 l0 x9_1).f0, (rd_T82 l0 x9_1).f1⟩ : S82), (⟨(rd_T82 l0 (ji8)).f0, (rd_T82 l0 (ji8)).f1⟩ : S82)⟩ : S85) [.int .i64 ((rd_T82 l0 x9_1).f0), .int .i64 ((rd_T82 l0 x9_1).f1), .int .i64 ((rd_T82 l0 (ji8)).f0), .int .i64 ((rd_T82 l0 (ji8)).f1)] (fun _ => True) (fun _ => False) rfl rfl ?aP (fun _ hk => hk.elim) ?aF ?aO ?aB ?aS ?aL ?_
          (case aP => exact k85_mkM _ _ _ (⟨(⟨(rd_T82 l0 x9_1).f0, (rd_T82 l0 x9_1).f1⟩ : S82), (⟨(rd_T82 l0 (ji8)).f0, (rd_T82 l0 (ji8)).f1⟩ : S82)⟩ : S85))
          (case aB => exact bzs)
          (case aF => exact (fun _ _ => trivial))
          (case aO => exact (hr HO_3.out))
          (case aS => exact (below_size bzs))
          (case aL => have := LMc11.out; omega)
          intro v265 w16 ho hb hg hat; rw [← Ny264.out] at ho; have n0_ := Aside0.mk (blk_grown (g := gb262) (o := .cells #[.int .i64 ((rd_T82 l0 x9_1).f0), .int .i64 ((rd_T82 l0 x9_1).f1)] 82 (0, 0)) (kz BK262) hg (Kd.R_ne HO_3.out BK262.out (by decide))); have n1_ := Aside0.mk (hb); have n2_ := Aside0.mk (ho); clear BK262; clear HB; clear HO_3; have BK262 := n0_; have HB := n1_; have HO266 := n2_; clear n0_ n1_ n2_; clear ho hb hg hat; refine hK.out _ _ ⟨bc BK262 0, bc BK262 1, (xz HB hw263_0 :), (xz HB hw263_1 :)⟩ (fun hHeld => ?_); clear hK K; refine nz 26 ?_; refine pz HT_ 13 3 ?_; refine dz HT_ ?_; (try go_wp2)
          go_roundg k1
          case measure => have := HK1.out; omega
          case rel => exact ⟨(y264), (wrap64 (x9_1 + 1)), rz, H', ⟨by have := HK1.out; omega⟩, ⟨hr HO266.out⟩, ⟨bzs⟩⟩
         ·rw [if_neg c11] at H
          exact absurd H (by simp)
        ·rw [if_neg c10] at H
         exact absurd H (by simp)
       ·rw [if_neg c9] at H
        exact absurd H (by simp)
     ·rw [if_neg c6] at H
      exact absurd H (by simp)
    ·rw [if_neg c5] at H
     exact absurd H (by simp)
   ·rw [if_neg c4] at H; have c4b0 := decide_eq_false c4; clear c4; obtain rfl := Option.some.inj H; go_wp2; go_ret
    exact ⟨_, ez, hr HO_3.out, bz⟩

/-! ### impl_IsPoint: function 123 -/
theorem impl_IsPoint.any (a0_0 : Int) (a0_1 : Int) (w : World) :
    Calls Try.prog 123 #[.agg #[.int .i64 a0_0, .int .i64 a0_1]] w fun e w' => e = .returned (.bool (isPt a0_0 a0_1)) ∧ Below w.heap.size w w' := by
  have HB := Aside0.mk (Below.refl w.heap.size w)
  go_enter Try.func123, Try.ntmps123; go_wp2_with (first
    | (go_at_call 112; refine (impl_InRange.any _ _ _ _).mono ?_; rintro e w1 ⟨rfl, rfl⟩))
  all_goals (go_ret; refine ⟨?_, by repeat (first | (with_reducible first | exact HB.out | apply below_alloc | apply below_drew1 | apply pw_below_drewN) | exact HB.out)⟩; clear HB; congr 2; simp [isPt, *])
def impl_IsPoint.f (a0_0 : Int) (a0_1 : Int) : Option (Bool) := some (isPt a0_0 a0_1)
theorem impl_IsPoint.calls (a0_0 : Int) (a0_1 : Int) (r : Bool) (w : World) (h : impl_IsPoint.f a0_0 a0_1 = some r) :
    Calls Try.prog 123 #[.agg #[.int .i64 a0_0, .int .i64 a0_1]] w fun e w' => e = .returned (.bool (r)) ∧ Below w.heap.size w w' := by
  obtain rfl := Option.some.inj h
  exact (impl_IsPoint.any a0_0 a0_1 w).mono fun e w' ⟨he, hw⟩ => ⟨he, hw⟩
/-! ### impl_IsSegment: function 151 -/
theorem impl_IsSegment.any (a0_0 : Int) (a0_1 : Int) (a0_2 : Int) (a0_3 : Int) (w : World) :
    Calls Try.prog 151 #[.agg #[.int .i64 a0_0, .int .i64 a0_1, .int .i64 a0_2, .int .i64 a0_3]] w fun e w' => e = .returned (.bool (isSeg a0_0 a0_1 a0_2 a0_3)) ∧ Below w.heap.size w w' := by
  have HB := Aside0.mk (Below.refl w.heap.size w)
  go_enter Try.func151, Try.ntmps151; go_wp2_with (first
    | (go_at_call 123; refine (impl_IsPoint.any _ _ _).mono ?_; rintro e w1 ⟨rfl, hb⟩; have n0 := Aside0.mk (below_step (by repeat (first | (with_reducible first | exact HB.out | apply below_alloc | apply below_drew1 | apply pw_below_drewN) | exact HB.out)) hb); clear HB; have HB := n0; clear n0; obtain ⟨hc, hf⟩ := bcell hb; have hz0 : w.heap.size < w1.heap.size := (by have := hb.size; (try simp at this); omega); clear hb))
  all_goals (go_ret; refine ⟨?_, by repeat (first | (with_reducible first | exact HB.out | apply below_alloc | apply below_drew1 | apply pw_below_drewN) | exact HB.out)⟩; clear HB; congr 2; unfold isSeg; simp_all)
def impl_IsSegment.f (a0_0 : Int) (a0_1 : Int) (a0_2 : Int) (a0_3 : Int) : Option (Bool) := some (isSeg a0_0 a0_1 a0_2 a0_3)
theorem impl_IsSegment.calls (a0_0 : Int) (a0_1 : Int) (a0_2 : Int) (a0_3 : Int) (r : Bool) (w : World) (h : impl_IsSegment.f a0_0 a0_1 a0_2 a0_3 = some r) :
    Calls Try.prog 151 #[.agg #[.int .i64 a0_0, .int .i64 a0_1, .int .i64 a0_2, .int .i64 a0_3]] w fun e w' => e = .returned (.bool (r)) ∧ Below w.heap.size w w' := by
  obtain rfl := Option.some.inj h
  exact (impl_IsSegment.any a0_0 a0_1 a0_2 a0_3 w).mono fun e w' ⟨he, hw⟩ => ⟨he, hw⟩
/-! ### cmp_isNaN_int: function 156 -/
theorem cmp_isNaN_int.any (a0 : Int) (w : World) :
    Calls Try.prog 156 #[.int .i64 a0] w fun e w' => e = .returned (.bool (false)) ∧ w = w' := by
  go_enter Try.func156, Try.ntmps156; go_wp2
  all_goals (go_ret; refine ⟨?_, rfl⟩; simp)
def cmp_isNaN_int.f (a0 : Int) : Option (Bool) := some (false)
theorem cmp_isNaN_int.calls (a0 : Int) (r : Bool) (w : World) (h : cmp_isNaN_int.f a0 = some r) :
    Calls Try.prog 156 #[.int .i64 a0] w fun e w' => e = .returned (.bool (r)) ∧ ∃ nd_ : Nat, w = w' := by
  obtain rfl := Option.some.inj h
  exact (cmp_isNaN_int.any a0 w).mono fun e w' ⟨he, hw⟩ => ⟨he, 0, hw⟩
/-! ### cmp_Compare_int: function 131 -/
theorem cmp_Compare_int.any (a0 : Int) (a1 : Int) (w : World) :
    Calls Try.prog 131 #[.int .i64 a0, .int .i64 a1] w fun e w' => e = .returned (.int .i64 (cmpI a0 a1)) ∧ w = w' := by
  go_enter Try.func131, Try.ntmps131; go_wp2_with (first
    | (go_at_call 156; refine (cmp_isNaN_int.any _ _).mono ?_; rintro e w1 ⟨rfl, rfl⟩))
  all_goals (go_ret; refine ⟨?_, rfl⟩; congr 2; first | (simp [cmpI, *]; done) | (unfold cmpI; repeat' split) <;> first | rfl | omega)
def cmp_Compare_int.f (a0 : Int) (a1 : Int) : Option (Int) := some (cmpI a0 a1)
theorem cmp_Compare_int.calls (a0 : Int) (a1 : Int) (r : Int) (w : World) (h : cmp_Compare_int.f a0 a1 = some r) :
    Calls Try.prog 131 #[.int .i64 a0, .int .i64 a1] w fun e w' => e = .returned (.int .i64 (r)) ∧ ∃ nd_ : Nat, w = w' := by
  obtain rfl := Option.some.inj h
  exact (cmp_Compare_int.any a0 a1 w).mono fun e w' ⟨he, hw⟩ => ⟨he, 0, hw⟩
/-! ### impl_cross: function 149 -/
theorem impl_cross.any (a0_0 : Int) (a0_1 : Int) (a1_0 : Int) (a1_1 : Int) (a2_0 : Int) (a2_1 : Int) (w : World) :
    Calls Try.prog 149 #[.agg #[.int .i64 a0_0, .int .i64 a0_1], .agg #[.int .i64 a1_0, .int .i64 a1_1], .agg #[.int .i64 a2_0, .int .i64 a2_1]] w fun e w' => e = .returned (.int .i64 (crossI a0_0 a0_1 a1_0 a1_1 a2_0 a2_1)) ∧ Below w.heap.size w w' := by
  have HB := Aside0.mk (Below.refl w.heap.size w)
  go_enter Try.func149, Try.ntmps149; go_wp2
  all_goals (go_ret; refine ⟨?_, by repeat (first | (with_reducible first | exact HB.out | apply below_alloc | apply below_drew1 | apply pw_below_drewN) | exact HB.out)⟩; clear HB; rfl)
def impl_cross.f (a0_0 : Int) (a0_1 : Int) (a1_0 : Int) (a1_1 : Int) (a2_0 : Int) (a2_1 : Int) : Option (Int) := some (crossI a0_0 a0_1 a1_0 a1_1 a2_0 a2_1)
theorem impl_cross.calls (a0_0 : Int) (a0_1 : Int) (a1_0 : Int) (a1_1 : Int) (a2_0 : Int) (a2_1 : Int) (r : Int) (w : World) (h : impl_cross.f a0_0 a0_1 a1_0 a1_1 a2_0 a2_1 = some r) :
    Calls Try.prog 149 #[.agg #[.int .i64 a0_0, .int .i64 a0_1], .agg #[.int .i64 a1_0, .int .i64 a1_1], .agg #[.int .i64 a2_0, .int .i64 a2_1]] w fun e w' => e = .returned (.int .i64 (r)) ∧ Below w.heap.size w w' := by
  obtain rfl := Option.some.inj h
  exact (impl_cross.any a0_0 a0_1 a1_0 a1_1 a2_0 a2_1 w).mono fun e w' ⟨he, hw⟩ => ⟨he, hw⟩
/-! ### impl_SideOf: function 167 -/
set_option maxHeartbeats 4000000 in
theorem impl_SideOf.any (a0_0 : Int) (a0_1 : Int) (a1_0 : Int) (a1_1 : Int) (a2_0 : Int) (a2_1 : Int) (w : World) :
    Calls Try.prog 167 #[.agg #[.int .i64 a0_0, .int .i64 a0_1], .agg #[.int .i64 a1_0, .int .i64 a1_1], .agg #[.int .i64 a2_0, .int .i64 a2_1]] w fun e w' => e = .returned (.int .i64 (sideI a0_0 a0_1 a1_0 a1_1 a2_0 a2_1)) ∧ Below w.heap.size w w' := by
  have HB := Aside0.mk (Below.refl w.heap.size w)
  go_enter Try.func167, Try.ntmps167; go_wp2_with (first
    | (go_at_call 123; refine (impl_IsPoint.any _ _ _).mono ?_; rintro e w1 ⟨rfl, hb⟩; have n0 := Aside0.mk (below_step (by repeat (first | (with_reducible first | exact HB.out | apply below_alloc | apply below_drew1 | apply pw_below_drewN) | exact HB.out)) hb); clear HB; have HB := n0; clear n0; obtain ⟨hc, hf⟩ := bcell hb; have hz0 : w.heap.size < w1.heap.size := (by have := hb.size; (try simp at this); omega); have hz1 : w.heap.size + 1 < w1.heap.size := (by have := hb.size; (try simp at this); omega); have hz2 : w.heap.size + 1 + 1 < w1.heap.size := (by have := hb.size; (try simp at this); omega); clear hb)
    | (go_at_call 149; refine (impl_cross.any _ _ _ _ _ _ _).mono ?_; rintro e w1 ⟨rfl, hb⟩; have n0 := Aside0.mk (below_step (by repeat (first | (with_reducible first | exact HB.out | apply below_alloc | apply below_drew1 | apply pw_below_drewN) | exact HB.out)) hb); clear HB; have HB := n0; clear n0; obtain ⟨hc, hf⟩ := bcell hb; have hz0 : w.heap.size < w1.heap.size := (by have := hb.size; (try simp at this); omega); have hz1 : w.heap.size + 1 < w1.heap.size := (by have := hb.size; (try simp at this); omega); have hz2 : w.heap.size + 1 + 1 < w1.heap.size := (by have := hb.size; (try simp at this); omega); clear hb)
    | (go_at_call 131; refine (cmp_Compare_int.any _ _ _).mono ?_; rintro e w1 ⟨rfl, rfl⟩))
  all_goals (go_ret; refine ⟨?_, by repeat (first | (with_reducible first | exact HB.out | apply below_alloc | apply below_drew1 | apply pw_below_drewN) | exact HB.out)⟩; clear HB; congr 2; unfold sideI; split <;> rename_i hq <;> simp_all)
def impl_SideOf.f (a0_0 : Int) (a0_1 : Int) (a1_0 : Int) (a1_1 : Int) (a2_0 : Int) (a2_1 : Int) : Option (Int) := some (sideI a0_0 a0_1 a1_0 a1_1 a2_0 a2_1)
theorem impl_SideOf.calls (a0_0 : Int) (a0_1 : Int) (a1_0 : Int) (a1_1 : Int) (a2_0 : Int) (a2_1 : Int) (r : Int) (w : World) (h : impl_SideOf.f a0_0 a0_1 a1_0 a1_1 a2_0 a2_1 = some r) :
    Calls Try.prog 167 #[.agg #[.int .i64 a0_0, .int .i64 a0_1], .agg #[.int .i64 a1_0, .int .i64 a1_1], .agg #[.int .i64 a2_0, .int .i64 a2_1]] w fun e w' => e = .returned (.int .i64 (r)) ∧ Below w.heap.size w w' := by
  obtain rfl := Option.some.inj h
  exact (impl_SideOf.any a0_0 a0_1 a1_0 a1_1 a2_0 a2_1 w).mono fun e w' ⟨he, hw⟩ => ⟨he, hw⟩
/-! ### impl_BeforePoint: function 170 -/
theorem impl_BeforePoint.any (a0_0 : Int) (a0_1 : Int) (a1_0 : Int) (a1_1 : Int) (w : World) :
    Calls Try.prog 170 #[.agg #[.int .i64 a0_0, .int .i64 a0_1], .agg #[.int .i64 a1_0, .int .i64 a1_1]] w fun e w' => e = .returned (.bool (beforeI a0_0 a0_1 a1_0 a1_1)) ∧ Below w.heap.size w w' := by
  have HB := Aside0.mk (Below.refl w.heap.size w)
  go_enter Try.func170, Try.ntmps170; go_wp2
  all_goals (go_ret; refine ⟨?_, by repeat (first | (with_reducible first | exact HB.out | apply below_alloc | apply below_drew1 | apply pw_below_drewN) | exact HB.out)⟩; clear HB; congr 2; unfold beforeI; simp_all)
def impl_BeforePoint.f (a0_0 : Int) (a0_1 : Int) (a1_0 : Int) (a1_1 : Int) : Option (Bool) := some (beforeI a0_0 a0_1 a1_0 a1_1)
theorem impl_BeforePoint.calls (a0_0 : Int) (a0_1 : Int) (a1_0 : Int) (a1_1 : Int) (r : Bool) (w : World) (h : impl_BeforePoint.f a0_0 a0_1 a1_0 a1_1 = some r) :
    Calls Try.prog 170 #[.agg #[.int .i64 a0_0, .int .i64 a0_1], .agg #[.int .i64 a1_0, .int .i64 a1_1]] w fun e w' => e = .returned (.bool (r)) ∧ Below w.heap.size w w' := by
  obtain rfl := Option.some.inj h
  exact (impl_BeforePoint.any a0_0 a0_1 a1_0 a1_1 w).mono fun e w' ⟨he, hw⟩ => ⟨he, hw⟩
/-! ### impl_TurnSegment: function 174 -/
def impl_TurnSegment.f (a0_0 : Int) (a0_1 : Int) (a0_2 : Int) (a0_3 : Int) : Option (Int × Int × Int × Int) := some (a0_2, a0_3, a0_0, a0_1)
set_option maxHeartbeats 8000000 in
set_option maxRecDepth 100000 in
theorem impl_TurnSegment.calls (a0_0 : Int) (a0_1 : Int) (a0_2 : Int) (a0_3 : Int) (r1 : Int) (r2 : Int) (r3 : Int) (r4 : Int) (w : World) (h : impl_TurnSegment.f a0_0 a0_1 a0_2 a0_3 = some (r1, r2, r3, r4)) :
  Calls Try.prog 174 #[.agg #[.int .i64 a0_0, .int .i64 a0_1, .int .i64 a0_2, .int .i64 a0_3]] w fun e w' => e = .returned (.agg #[.int .i64 r1, .int .i64 r2, .int .i64 r3, .int .i64 r4]) ∧ Below w.heap.size w w' := by
 have hu85 := Try.underlying85; have hu82 := Try.underlying82; have HB := Aside0.mk (Below.refl w.heap.size w); have H : (some (a0_2, a0_3, a0_0, a0_1)) = some (r1, r2, r3, r4) := h; clear h; simp only [Option.some.injEq, Prod.mk.injEq] at H; obtain ⟨rfl, rfl, rfl, rfl⟩ := H
 go_enter Try.func174, Try.ntmps174; go_wp2_with (first | ((with_reducible refine gt (some 1) rfl ?_); refine bx #[.int .i64 a0_0, .int .i64 a0_1, .int .i64 a0_2, .int .i64 a0_3] 85 ?_; intro gb267 hg w2 hbox hb; have BK267 := Aside0.mk (hbox); have GW267 := Aside0.mk (gez HB hg); have GE267 := Aside0.mk (gez HB hg); replace HB := Aside0.mk (below_step bz hb); clear hb hbox hg) | ((with_reducible refine gt (some 2) rfl ?_); refine bx #[.int .i64 0, .int .i64 0, .int .i64 0, .int .i64 0] 85 ?_; intro gb268 hg w3 hbox hb; have BK268 := Aside0.mk (hbox); have GW268 := Aside0.mk (gez HB hg); have GE268 := Aside0.mk (gez HB hg); replace HB := Aside0.mk (below_step bzs hb); have NB267_268 := Aside0.mk ((by rw [hg]; exact Nat.ne_of_lt (blk_lt (g := gb267) (o := .cells #[.int .i64 a0_0, .int .i64 a0_1, .int .i64 a0_2, .int .i64 a0_3] 85 (0, 0)) (kz BK267)) : gb267 ≠ gb268)); have NB268_267 := Aside0.mk ((by rw [hg]; exact Nat.ne_of_gt (blk_lt (g := gb267) (o := .cells #[.int .i64 a0_0, .int .i64 a0_1, .int .i64 a0_2, .int .i64 a0_3] 85 (0, 0)) (kz BK267)) : gb268 ≠ gb267)); replace BK267 := Aside0.mk (bbz BK267 hb); clear hb hbox hg; have hnb4 := NB267_268.out; have hnc4 := NB268_267.out; obtain ⟨hcz5_0, hcz5_1, hcz5_2, hcz5_3, hfz5_0, hfz5_1, hfz5_2, hfz5_3⟩ := cells4 BK267; obtain ⟨hcz6_0, hcz6_1, hcz6_2, hcz6_3, hfz6_0, hfz6_1, hfz6_2, hfz6_3⟩ := cells4 BK268)); refine bodyPost_ret (results_cell_row rfl _ _ gb268 85 #[.int .i64 a0_2, .int .i64 a0_3, .int .i64 a0_0, .int .i64 a0_1] (0, 0) _ rfl (by (with_reducible repeat (first | refine blk_drewN ?_ _ | refine blk_drew ?_ | refine blk_alloc ?_ _)); refine blk_put (cs := #[.int .i64 a0_2, .int .i64 a0_3, .int .i64 a0_0, .int .i64 0]) ?_ 3 _ rfl; (with_reducible repeat (first | refine blk_drewN ?_ _ | refine blk_drew ?_ | refine blk_alloc ?_ _)); refine blk_put (cs := #[.int .i64 a0_2, .int .i64 a0_3, .int .i64 0, .int .i64 0]) ?_ 2 _ rfl; (with_reducible repeat (first | refine blk_drewN ?_ _ | refine blk_drew ?_ | refine blk_alloc ?_ _)); refine blk_put (cs := #[.int .i64 a0_2, .int .i64 0, .int .i64 0, .int .i64 0]) ?_ 1 _ rfl; (with_reducible repeat (first | refine blk_drewN ?_ _ | refine blk_drew ?_ | refine blk_alloc ?_ _)); refine blk_put (cs := #[.int .i64 0, .int .i64 0, .int .i64 0, .int .i64 0]) ?_ 0 _ rfl; (with_reducible repeat (first | refine blk_drewN ?_ _ | refine blk_drew ?_ | refine blk_alloc ?_ _)); exact BK268.out) Try.underlying85 rfl (by kernel_rfl)) rfl ?_
 exact ⟨ez, bzs⟩

/-! ### impl_forward: function 169 -/
def impl_forward.f (a0_0 : Int) (a0_1 : Int) (a0_2 : Int) (a0_3 : Int) : Option (Int × Int × Int × Int) := (impl_BeforePoint.f a0_2 a0_3 a0_0 a0_1).bind fun t271 => (if t271 = true then ((impl_TurnSegment.f a0_0 a0_1 a0_2 a0_3).bind fun bt272 => (some (bt272.1, bt272.2.1, bt272.2.2.1, bt272.2.2.2))) else (some (a0_0, a0_1, a0_2, a0_3)))
set_option maxHeartbeats 8000000 in
set_option maxRecDepth 100000 in
theorem impl_forward.calls (a0_0 : Int) (a0_1 : Int) (a0_2 : Int) (a0_3 : Int) (r1 : Int) (r2 : Int) (r3 : Int) (r4 : Int) (w : World) (h : impl_forward.f a0_0 a0_1 a0_2 a0_3 = some (r1, r2, r3, r4)) :
  Calls Try.prog 169 #[.agg #[.int .i64 a0_0, .int .i64 a0_1, .int .i64 a0_2, .int .i64 a0_3]] w fun e w' => e = .returned (.agg #[.int .i64 r1, .int .i64 r2, .int .i64 r3, .int .i64 r4]) ∧ Below w.heap.size w w' := by
 have hu85 := Try.underlying85; have hu82 := Try.underlying82; have HB := Aside0.mk (Below.refl w.heap.size w); have H : ((impl_BeforePoint.f a0_2 a0_3 a0_0 a0_1).bind fun t271 => (if t271 = true then ((impl_TurnSegment.f a0_0 a0_1 a0_2 a0_3).bind fun bt272 => (some (bt272.1, bt272.2.1, bt272.2.2.1, bt272.2.2.2))) else (some (a0_0, a0_1, a0_2, a0_3)))) = some (r1, r2, r3, r4) := h; clear h; replace H := Option.bind_eq_some_iff.mp H; obtain ⟨t271, A20, H⟩ := H; have A2 := Aside0.mk A20; clear A20
 by_cases c3 : t271 = true
 ·subst c3; replace H := ift H; replace H := Option.bind_eq_some_iff.mp H; obtain ⟨⟨t272, t273, t274, t275⟩, A40, H⟩ := H; replace H : (some (t272, t273, t274, t275)) = some (r1, r2, r3, r4) := H; have A4 := Aside0.mk A40; clear A40; simp only [Option.some.injEq, Prod.mk.injEq] at H; obtain ⟨rfl, rfl, rfl, rfl⟩ := H
  go_enter Try.func169, Try.ntmps169; go_wp2_with (first | ((with_reducible refine gt (some 1) rfl ?_); refine bx #[.int .i64 a0_0, .int .i64 a0_1, .int .i64 a0_2, .int .i64 a0_3] 85 ?_; intro gb269 hg w5 hbox hb; have BK269 := Aside0.mk (hbox); have GW269 := Aside0.mk (gez HB hg); have GE269 := Aside0.mk (gez HB hg); replace HB := Aside0.mk (below_step bz hb); clear hb hbox hg) | ((with_reducible refine gt (some 2) rfl ?_); refine bx #[.int .i64 0, .int .i64 0, .int .i64 0, .int .i64 0] 85 ?_; intro gb270 hg w6 hbox hb; have BK270 := Aside0.mk (hbox); have GW270 := Aside0.mk (gez HB hg); have GE270 := Aside0.mk (gez HB hg); replace HB := Aside0.mk (below_step bzs hb); have NB269_270 := Aside0.mk ((by rw [hg]; exact Nat.ne_of_lt (blk_lt (g := gb269) (o := .cells #[.int .i64 a0_0, .int .i64 a0_1, .int .i64 a0_2, .int .i64 a0_3] 85 (0, 0)) (kz BK269)) : gb269 ≠ gb270)); have NB270_269 := Aside0.mk ((by rw [hg]; exact Nat.ne_of_gt (blk_lt (g := gb269) (o := .cells #[.int .i64 a0_0, .int .i64 a0_1, .int .i64 a0_2, .int .i64 a0_3] 85 (0, 0)) (kz BK269)) : gb270 ≠ gb269)); replace BK269 := Aside0.mk (bbz BK269 hb); clear hb hbox hg; have hnb7 := NB269_270.out; have hnc7 := NB270_269.out; obtain ⟨hcz8_0, hcz8_1, hcz8_2, hcz8_3, hfz8_0, hfz8_1, hfz8_2, hfz8_3⟩ := cells4 BK269) | ((with_reducible refine gt (some 7) rfl ?_); refine gc Try.func170 (impl_BeforePoint.calls a0_2 a0_3 a0_0 a0_1 true _ A2.out) ?_; rintro e w9 ⟨rfl, hb⟩; refine ⟨_, rfl, ?_⟩; replace BK269 := Aside0.mk (bbz BK269 hb); replace BK270 := Aside0.mk (bbz BK270 hb); replace HB := Aside0.mk (below_step bzs hb); (try clear hb); obtain ⟨hcz10_0, hcz10_1, hcz10_2, hcz10_3, hfz10_0, hfz10_1, hfz10_2, hfz10_3⟩ := cells4 BK269) | ((with_reducible refine gt (some 9) rfl ?_); refine gc Try.func174 (impl_TurnSegment.calls a0_0 a0_1 a0_2 a0_3 t272 t273 t274 t275 _ A4.out) ?_; rintro e w11 ⟨rfl, hb⟩; refine ⟨_, rfl, ?_⟩; replace BK269 := Aside0.mk (bbz BK269 hb); replace BK270 := Aside0.mk (bbz BK270 hb); replace HB := Aside0.mk (below_step bzs hb); (try clear hb); obtain ⟨hcz12_0, hcz12_1, hcz12_2, hcz12_3, hfz12_0, hfz12_1, hfz12_2, hfz12_3⟩ := cells4 BK270))
  refine bodyPost_ret (results_cell_row rfl _ _ gb270 85 #[.int .i64 t272, .int .i64 t273, .int .i64 t274, .int .i64 t275] (0, 0) _ rfl (by (with_reducible repeat (first | refine blk_drewN ?_ _ | refine blk_drew ?_ | refine blk_alloc ?_ _)); refine blk_put (cs := #[.int .i64 t272, .int .i64 t273, .int .i64 t274, .int .i64 0]) ?_ 3 _ rfl; (with_reducible repeat (first | refine blk_drewN ?_ _ | refine blk_drew ?_ | refine blk_alloc ?_ _)); refine blk_put (cs := #[.int .i64 t272, .int .i64 t273, .int .i64 0, .int .i64 0]) ?_ 2 _ rfl; (with_reducible repeat (first | refine blk_drewN ?_ _ | refine blk_drew ?_ | refine blk_alloc ?_ _)); refine blk_put (cs := #[.int .i64 t272, .int .i64 0, .int .i64 0, .int .i64 0]) ?_ 1 _ rfl; (with_reducible repeat (first | refine blk_drewN ?_ _ | refine blk_drew ?_ | refine blk_alloc ?_ _)); refine blk_put (cs := #[.int .i64 0, .int .i64 0, .int .i64 0, .int .i64 0]) ?_ 0 _ rfl; (with_reducible repeat (first | refine blk_drewN ?_ _ | refine blk_drew ?_ | refine blk_alloc ?_ _)); exact BK270.out) Try.underlying85 rfl (by kernel_rfl)) rfl ?_
  exact ⟨ez, bzs⟩
 ·replace c3 := Bool.eq_false_iff.mpr c3; subst c3; replace H := iff_ H; simp only [Option.some.injEq, Prod.mk.injEq] at H; obtain ⟨rfl, rfl, rfl, rfl⟩ := H
  go_enter Try.func169, Try.ntmps169; go_wp2_with (first | ((with_reducible refine gt (some 1) rfl ?_); refine bx #[.int .i64 a0_0, .int .i64 a0_1, .int .i64 a0_2, .int .i64 a0_3] 85 ?_; intro gb269 hg w13 hbox hb; have BK269 := Aside0.mk (hbox); have GW269 := Aside0.mk (gez HB hg); have GE269 := Aside0.mk (gez HB hg); replace HB := Aside0.mk (below_step bz hb); clear hb hbox hg) | ((with_reducible refine gt (some 2) rfl ?_); refine bx #[.int .i64 0, .int .i64 0, .int .i64 0, .int .i64 0] 85 ?_; intro gb270 hg w14 hbox hb; have BK270 := Aside0.mk (hbox); have GW270 := Aside0.mk (gez HB hg); have GE270 := Aside0.mk (gez HB hg); replace HB := Aside0.mk (below_step bzs hb); have NB269_270 := Aside0.mk ((by rw [hg]; exact Nat.ne_of_lt (blk_lt (g := gb269) (o := .cells #[.int .i64 a0_0, .int .i64 a0_1, .int .i64 a0_2, .int .i64 a0_3] 85 (0, 0)) (kz BK269)) : gb269 ≠ gb270)); have NB270_269 := Aside0.mk ((by rw [hg]; exact Nat.ne_of_gt (blk_lt (g := gb269) (o := .cells #[.int .i64 a0_0, .int .i64 a0_1, .int .i64 a0_2, .int .i64 a0_3] 85 (0, 0)) (kz BK269)) : gb270 ≠ gb269)); replace BK269 := Aside0.mk (bbz BK269 hb); clear hb hbox hg; have hnb15 := NB269_270.out; have hnc15 := NB270_269.out; obtain ⟨hcz16_0, hcz16_1, hcz16_2, hcz16_3, hfz16_0, hfz16_1, hfz16_2, hfz16_3⟩ := cells4 BK269) | ((with_reducible refine gt (some 7) rfl ?_); refine gc Try.func170 (impl_BeforePoint.calls a0_2 a0_3 a0_0 a0_1 false _ A2.out) ?_; rintro e w17 ⟨rfl, hb⟩; refine ⟨_, rfl, ?_⟩; replace BK269 := Aside0.mk (bbz BK269 hb); replace BK270 := Aside0.mk (bbz BK270 hb); replace HB := Aside0.mk (below_step bzs hb); (try clear hb); obtain ⟨hcz18_0, hcz18_1, hcz18_2, hcz18_3, hfz18_0, hfz18_1, hfz18_2, hfz18_3⟩ := cells4 BK269; obtain ⟨hcz19_0, hcz19_1, hcz19_2, hcz19_3, hfz19_0, hfz19_1, hfz19_2, hfz19_3⟩ := cells4 BK270))
  refine bodyPost_ret (results_cell_row rfl _ _ gb270 85 #[.int .i64 a0_0, .int .i64 a0_1, .int .i64 a0_2, .int .i64 a0_3] (0, 0) _ rfl (by (with_reducible repeat (first | refine blk_drewN ?_ _ | refine blk_drew ?_ | refine blk_alloc ?_ _)); refine blk_put (cs := #[.int .i64 a0_0, .int .i64 a0_1, .int .i64 a0_2, .int .i64 0]) ?_ 3 _ rfl; (with_reducible repeat (first | refine blk_drewN ?_ _ | refine blk_drew ?_ | refine blk_alloc ?_ _)); refine blk_put (cs := #[.int .i64 a0_0, .int .i64 a0_1, .int .i64 0, .int .i64 0]) ?_ 2 _ rfl; (with_reducible repeat (first | refine blk_drewN ?_ _ | refine blk_drew ?_ | refine blk_alloc ?_ _)); refine blk_put (cs := #[.int .i64 a0_0, .int .i64 0, .int .i64 0, .int .i64 0]) ?_ 1 _ rfl; (with_reducible repeat (first | refine blk_drewN ?_ _ | refine blk_drew ?_ | refine blk_alloc ?_ _)); refine blk_put (cs := #[.int .i64 0, .int .i64 0, .int .i64 0, .int .i64 0]) ?_ 0 _ rfl; (with_reducible repeat (first | refine blk_drewN ?_ _ | refine blk_drew ?_ | refine blk_alloc ?_ _)); exact BK270.out) Try.underlying85 rfl (by kernel_rfl)) rfl ?_
  exact ⟨ez, bzs⟩

end Go.Proofs.Ytdfehjfmihokpaa.PFnExactAllPieces
