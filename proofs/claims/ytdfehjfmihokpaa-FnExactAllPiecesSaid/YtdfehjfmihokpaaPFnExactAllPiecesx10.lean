-- Written by a program of this session's: the kit's print, turned (turnprint.py): functions, and that Go comes to just their answers.
import Derived.Test.YtdfehjfmihokpaaZ
import Derived.Test.YtdfehjfmihokpaaPFnExactAllPiecesx0
import Derived.Test.YtdfehjfmihokpaaPFnExactAllPiecesx1
import Derived.Test.YtdfehjfmihokpaaPFnExactAllPiecesx5
namespace Go.Proofs.Ytdfehjfmihokpaa.PFnExactAllPieces
open Go.RowKit Go.Proofs.YtdfehjfmihokpaaW.PrintWords Go.Proofs.YtdfehjfmihokpaaW.PrintLast Go.Proofs.YtdfehjfmihokpaaW.PrintMore Go.Proofs.YtdfehjfmihokpaaGeo Go.Proofs.YtdfehjfmihokpaaHand Go.Proofs.YtdfehjfmihokpaaMeet Go.Proofs.YtdfehjfmihokpaaQuiet Go.Proofs.YtdfehjfmihokpaaZ
attribute [local go_sem] max2_int min2_int max_two min_two max_three min_three max_four min_four   -- for this text's walks alone
set_option linter.unusedVariables false
set_option linter.unusedSimpArgs false

attribute [local go_sem high] eqA82
/-! ### spec_IsLine: function 106 -/
def spec_IsLine.l0 : Nat → List (S82) → Int → Option (Bool)
 | 0, _, _ => none
 | k + 1, x0, x3 => if x3 < (x0.length : Int) then (if 0 ≤ x3 then ((spec_IsPoint.f ((rd_T82 x0 x3).f0) ((rd_T82 x0 x3).f1)).bind fun t189 => (if t189 = true then (if x3 > 0 then (if 0 ≤ (wrap64 (x3 - 1)) then (if (wrap64 (x3 - 1)) < (x0.length : Int) then (if (((rd_T82 x0 (wrap64 (x3 - 1))).f0) == ((rd_T82 x0 x3).f0) && (((rd_T82 x0 (wrap64 (x3 - 1))).f1) == ((rd_T82 x0 x3).f1))) = true then (some false) else (spec_IsLine.l0 k x0 (wrap64 (x3 + 1)))) else (none)) else (none)) else (spec_IsLine.l0 k x0 (wrap64 (x3 + 1)))) else (some false))) else (none)) else ((spec_l1In.f (x0.length : Int) 2 10).bind fun t192 => (some t192))
def spec_IsLine.f (k : Nat) (l0 : List (S82)) : Option (Bool) := spec_IsLine.l0 k l0 0
theorem spec_IsLine.mono_l : ∀ k, (∀ y0 y1, LeO (spec_IsLine.l0 k y0 y1) (spec_IsLine.l0 (k + 1) y0 y1))
 | 0 => fun _ _ r h => by simp [spec_IsLine.l0] at h
 | k + 1 => by
  have ih0 := spec_IsLine.mono_l k
  ·intro y0 y1
   unfold spec_IsLine.l0
   repeat' first | (with_reducible first | exact ih0 _ _ | exact LeO.refl _ | exact LeO.none _ | refine LeO.ite ?_ ?_ | refine LeO.bind ?_ (fun _ => ?_)) | exact ih0 _ _ | exact LeO.none _ | refine LeO.ite ?_ ?_ | refine LeO.bind ?_ (fun _ => ?_)
theorem spec_IsLine.mono : ∀ a0 k, LeO (spec_IsLine.f k a0) (spec_IsLine.f (k + 1) a0) := by
 intro a0 k; have ih0 := spec_IsLine.mono_l k
 unfold spec_IsLine.f
 repeat' first | (with_reducible first | exact ih0 _ _ | exact LeO.refl _ | exact LeO.none _ | refine LeO.ite ?_ ?_ | refine LeO.bind ?_ (fun _ => ?_)) | exact ih0 _ _ | exact LeO.none _ | refine LeO.ite ?_ ?_ | refine LeO.bind ?_ (fun _ => ?_)
def spec_IsLine.T4 : Bool × List (List Nat × List Nat) := (true, [([], []), ([], []), ([0, 1], [0, 1]), ([2], [2]), ([3], [3]), ([4], [4]), ([5, 4], [5]), ([6], [6]), ([7, 6], [6, 7]), ([8, 6, 6], [6, 8]), ([9], [9]), ([9], [9]), ([11, 9], [9, 11]), ([10, 12, 9], [9, 10, 12]), ([13, 9], [9, 13]), ([9], [9]), ([9], [9]), ([15, 16, 9], [9, 15, 16]), ([17, 9], [9, 17]), ([14, 18, 9], [9, 14, 18]), ([9, 19, 6], [6, 9, 19]), ([6, 20], [6, 20])])
def spec_IsLine.B4 : List Nat := [0, 0, 3, 7, 15, 31, 63, 127, 255, 511, 1023, 1023, 3071, 8191, 16383, 1023, 1023, 99327, 230399, 524287, 1048575, 2097151]
theorem spec_IsLine.tab4 : rtab .any (opsOf Try.f106 4) = spec_IsLine.T4 := by kernel_rfl
theorem spec_IsLine.bits4 : waitsOk spec_IsLine.T4.2 spec_IsLine.B4 = true := by kernel_rfl
set_option maxHeartbeats 8000000 in
set_option maxRecDepth 100000 in
theorem spec_IsLine.calls (k : Nat) (A0 : Option Addr) (c0 : Nat) (l0 : List (S82)) (r : Bool) (w : World) (hr0 : Kd.C k82 w A0 l0.length l0) (hc0 : l0.length ≤ c0) (h : spec_IsLine.f k l0 = some r) :
  Calls Try.prog 106 #[.slice A0 l0.length c0] w fun e w' => e = .returned (.bool r) ∧ Below w.heap.size w w' := by
 have hu82 := Try.underlying82; have HR0 := Aside0.mk hr0; have HC0 := Aside0.mk hc0; clear hr0 hc0; have HB := Aside0.mk (Below.refl w.heap.size w); have H : (spec_IsLine.l0 k l0 0) = some r := h; clear h; have H' := Aside0.mk H; clear H
 go_enter Try.func106, Try.ntmps106; go_wp2
 go_loopg [3] k (fun kq v3 w' => ∃ (x3_1 : Int), v3 = .int .i64 x3_1 ∧ Aside0 (spec_IsLine.l0 kq l0 x3_1 = some r) ∧ Aside0 (kq ≤ k) ∧ Aside0 (Below w.heap.size w w'))
 case atStart => exact ⟨(0), rz, H', ⟨Nat.le_refl _⟩, ⟨bz⟩⟩
 case round =>
  clear H'; (try clear c1); obtain ⟨x3_1, rfl, HA, HK1, HB⟩ := hrel
  cases gk with
  | zero => exact absurd HA.out (by simp [spec_IsLine.l0])
  | succ k1 =>
   have H := HA.out; clear HA; simp only [spec_IsLine.l0] at H
   by_cases c2 : x3_1 < (l0.length : Int)
   ·rw [if_pos c2] at H; have c2b0 := decide_eq_true c2; clear c2
    by_cases c3 : 0 ≤ x3_1
    ·rw [if_pos c3] at H; have c3b0 := decide_eq_true c3; clear c3; replace H := Option.bind_eq_some_iff.mp H; obtain ⟨t189, A40, H⟩ := H; have A4 := Aside0.mk A40; clear A40
     by_cases c5 : t189 = true
     ·subst c5; replace H := ift H
      by_cases c6 : x3_1 > 0
      ·rw [if_pos c6] at H; have c6b0 := decide_eq_true c6; clear c6; obtain ⟨ji7, hji7⟩ : ∃ j_ : Int, (wrap64 (x3_1 - 1)) = j_ := ⟨_, rfl⟩
       replace H : (if 0 ≤ (ji7) then (if (ji7) < (l0.length : Int) then (if (((rd_T82 l0 (ji7)).f0) == ((rd_T82 l0 x3_1).f0) && (((rd_T82 l0 (ji7)).f1) == ((rd_T82 l0 x3_1).f1))) = true then (some false) else (spec_IsLine.l0 k1 l0 (wrap64 (x3_1 + 1)))) else (none)) else (none)) = some r := by first | (rw [hji7] at H; exact H) | (simp only [hji7] at H ⊢; exact H)
       (try rw [hji7] at A4); have hji7w : (IntKind.i64.wrap (x3_1 - 1)) = ji7 := (i64_w _).trans hji7
       by_cases c8 : 0 ≤ (ji7)
       ·rw [if_pos c8] at H; have c8b0 := decide_eq_true c8; clear c8
        by_cases c9 : (ji7) < (l0.length : Int)
        ·rw [if_pos c9] at H; have c9b0 := decide_eq_true c9; clear c9
         by_cases c10 : (((rd_T82 l0 (ji7)).f0) == ((rd_T82 l0 x3_1).f0) && (((rd_T82 l0 (ji7)).f1) == ((rd_T82 l0 x3_1).f1))) = true
         ·rw [if_pos c10] at H; have c10b0 : (((rd_T82 l0 (ji7)).f0) == ((rd_T82 l0 x3_1).f0) && (((rd_T82 l0 (ji7)).f1) == ((rd_T82 l0 x3_1).f1))) = true := c10; (try (have c10b1 : decide (((rd_T82 l0 (ji7)).f0) = ((rd_T82 l0 x3_1).f0) && (((rd_T82 l0 (ji7)).f1) == ((rd_T82 l0 x3_1).f1))) = true := by simpa using c10)); (try (have c10b2 : (((rd_T82 l0 (ji7)).f0) == ((rd_T82 l0 x3_1).f0) && (((rd_T82 l0 (ji7)).f1) == ((rd_T82 l0 x3_1).f1))) = true := by simpa using c10)); clear c10; obtain rfl := Option.some.inj H; (try go_wp2); replace HB := Aside0.mk (below_drew1 HB.out); have p188 : 0 ≤ (x3_1 : Int) := of_decide_eq_true az; have q188 : x3_1 < (l0.length : Int) := of_decide_eq_true az; obtain ⟨ad188, e188, hx188_0, hx188_1⟩ := at_T82 HR0.out x3_1 p188 q188; have hw188_1 := hx188_1; have hw188_0 := hx188_0
          cases e188
          replace hx188_0 := xz HB hx188_0; replace hx188_1 := xz HB hx188_1; replace p188 := eq_true p188; replace q188 := eq_true q188; have p190 : 0 ≤ ((ji7) : Int) := of_decide_eq_true az; have q190 : (ji7) < (l0.length : Int) := of_decide_eq_true az; obtain ⟨ad190, e190, hx190_0, hx190_1⟩ := at_T82 HR0.out (ji7) p190 q190; have hw190_1 := hx190_1; have hw190_0 := hx190_0; obtain rfl : ad188 = ad190 := (by injection e190)
          replace hx190_0 := xz HB hx190_0; replace hx190_1 := xz HB hx190_1; replace p190 := eq_true p190; replace q190 := eq_true q190; have p191 : 0 ≤ (x3_1 : Int) := of_decide_eq_true az; have q191 : x3_1 < (l0.length : Int) := of_decide_eq_true az; obtain ⟨ad191, e191, hx191_0, hx191_1⟩ := at_T82 HR0.out x3_1 p191 q191; have hw191_1 := hx191_1; have hw191_0 := hx191_0; obtain rfl : ad188 = ad191 := (by injection e191)
          replace hx191_0 := xz HB hx191_0; replace hx191_1 := xz HB hx191_1; replace p191 := eq_true p191; replace q191 := eq_true q191; refine start_ (n := 22) (S := fun w' => w'.cell? (ad188.add ((x3_1).toNat * 2)) = some (.int .i64 ((rd_T82 l0 x3_1).f0)) ∧ w'.cell? ⟨(ad188.add ((x3_1).toNat * 2)).block, (ad188.add ((x3_1).toNat * 2)).off + 1, none⟩ = some (.int .i64 ((rd_T82 l0 x3_1).f1)) ∧ w'.cell? (ad188.add (((ji7)).toNat * 2)) = some (.int .i64 ((rd_T82 l0 (ji7)).f0)) ∧ w'.cell? ⟨(ad188.add (((ji7)).toNat * 2)).block, (ad188.add (((ji7)).toNat * 2)).off + 1, none⟩ = some (.int .i64 ((rd_T82 l0 (ji7)).f1)) ∧ w'.cell? (ad188.add ((x3_1).toNat * 2)) = some (.int .i64 ((rd_T82 l0 x3_1).f0)) ∧ w'.cell? ⟨(ad188.add ((x3_1).toNat * 2)).block, (ad188.add ((x3_1).toNat * 2)).off + 1, none⟩ = some (.int .i64 ((rd_T82 l0 x3_1).f1))) (ds := []) #[F,F,F,F,F,F,F,F,F,F,F,F,F,F,F,F,F,F,F,F,F,F] (by kernel_rfl) rfl rfl ⟨(xz HB hw188_0 :), (xz HB hw188_1 :), (xz HB hw190_0 :), (xz HB hw190_1 :), (xz HB hw191_0 :), (xz HB hw191_1 :)⟩ (fun hHeld => ?_); refine with_tabW spec_IsLine.tab4 spec_IsLine.bits4 (fun HT_ HW_ => ?_); generalize wr.drew = w11 at HB hx188_0 hx188_1 hx190_0 hx190_1 hx191_0 hx191_1 hHeld ⊢; refine pz HT_ 0 10 ?_; refine pz HT_ 1 11 ?_; refine pz HT_ 2 12 ?_; refine tz6 HT_ HW_ hHeld 3 13 ?_; refine oz HT_ 4 (some 14) (fun K hK => ?_); refine gz Try.func117 #[.agg #[.int .i64 ((rd_T82 l0 x3_1).f0), .int .i64 ((rd_T82 l0 x3_1).f1)]] ?_
          with_reducible refine (spec_IsPoint.calls ((rd_T82 l0 x3_1).f0) ((rd_T82 l0 x3_1).f1) true _ A4.out).mono ?_
          rintro e w12 ⟨rfl, hb⟩; refine ⟨_, rfl, ?_⟩; replace HB := Aside0.mk (below_step bz hb); (try clear hb); (try clear hb2); (try clear hk); (try clear hi); refine hK.out _ _ ⟨(xz HB hw188_0 :), (xz HB hw188_1 :), (xz HB hw190_0 :), (xz HB hw190_1 :), (xz HB hw191_0 :), (xz HB hw191_1 :)⟩ (fun hHeld => ?_); clear hK K; refine nz 14 ?_; refine pz HT_ 5 15 ?_; refine pz HT_ 6 16 ?_; refine pz HT_ 7 17 ?_; refine pz HT_ 8 18 ?_; refine pz HT_ 9 19 ?_; refine pz HT_ 10 20 ?_; refine pz HT_ 11 21 ?_; refine pz HT_ 12 22 ?_; refine pz HT_ 13 23 ?_; refine pz HT_ 15 25 ?_; refine pz HT_ 16 26 ?_; refine pz HT_ 17 27 ?_; refine tz6 HT_ HW_ hHeld 14 24 ?_; refine tz6 HT_ HW_ hHeld 18 28 ?_; refine pz HT_ 19 29 ?_; refine pz HT_ 20 30 ?_; refine pz HT_ 21 31 ?_; refine dz HT_ ?_; (try go_wp2); go_ret
          exact ⟨by first | rfl | (simp [errW_none, errW_some] <;> rfl) | (simp only [← hji7]; first | rfl | (simp [errW_none, errW_some] <;> rfl)) | (simp [*, errW_none, errW_some] <;> rfl), bz⟩
         ·rw [if_neg c10] at H; have c10b0 : (((rd_T82 l0 (ji7)).f0) == ((rd_T82 l0 x3_1).f0) && (((rd_T82 l0 (ji7)).f1) == ((rd_T82 l0 x3_1).f1))) = false := by simpa using c10
          (try (have c10b1 : decide (((rd_T82 l0 (ji7)).f0) = ((rd_T82 l0 x3_1).f0) && (((rd_T82 l0 (ji7)).f1) == ((rd_T82 l0 x3_1).f1))) = false := by simpa using c10)); (try (have c10b2 : (((rd_T82 l0 (ji7)).f0) == ((rd_T82 l0 x3_1).f0) && (((rd_T82 l0 (ji7)).f1) == ((rd_T82 l0 x3_1).f1))) = false := by simpa using c10)); (try (have c10b3 : ¬ (((rd_T82 l0 (ji7)).f0) = ((rd_T82 l0 x3_1).f0) && (((rd_T82 l0 (ji7)).f1) == ((rd_T82 l0 x3_1).f1))) := by simpa using c10)); clear c10; have H' := Aside0.mk H; clear H; (try go_wp2); replace HB := Aside0.mk (below_drew1 HB.out); have p188 : 0 ≤ (x3_1 : Int) := of_decide_eq_true az; have q188 : x3_1 < (l0.length : Int) := of_decide_eq_true az; obtain ⟨ad188, e188, hx188_0, hx188_1⟩ := at_T82 HR0.out x3_1 p188 q188; have hw188_1 := hx188_1; have hw188_0 := hx188_0
          cases e188
          replace hx188_0 := xz HB hx188_0; replace hx188_1 := xz HB hx188_1; replace p188 := eq_true p188; replace q188 := eq_true q188; have p190 : 0 ≤ ((ji7) : Int) := of_decide_eq_true az; have q190 : (ji7) < (l0.length : Int) := of_decide_eq_true az; obtain ⟨ad190, e190, hx190_0, hx190_1⟩ := at_T82 HR0.out (ji7) p190 q190; have hw190_1 := hx190_1; have hw190_0 := hx190_0; obtain rfl : ad188 = ad190 := (by injection e190)
          replace hx190_0 := xz HB hx190_0; replace hx190_1 := xz HB hx190_1; replace p190 := eq_true p190; replace q190 := eq_true q190; have p191 : 0 ≤ (x3_1 : Int) := of_decide_eq_true az; have q191 : x3_1 < (l0.length : Int) := of_decide_eq_true az; obtain ⟨ad191, e191, hx191_0, hx191_1⟩ := at_T82 HR0.out x3_1 p191 q191; have hw191_1 := hx191_1; have hw191_0 := hx191_0; obtain rfl : ad188 = ad191 := (by injection e191)
          replace hx191_0 := xz HB hx191_0; replace hx191_1 := xz HB hx191_1; replace p191 := eq_true p191; replace q191 := eq_true q191; refine start_ (n := 22) (S := fun w' => w'.cell? (ad188.add ((x3_1).toNat * 2)) = some (.int .i64 ((rd_T82 l0 x3_1).f0)) ∧ w'.cell? ⟨(ad188.add ((x3_1).toNat * 2)).block, (ad188.add ((x3_1).toNat * 2)).off + 1, none⟩ = some (.int .i64 ((rd_T82 l0 x3_1).f1)) ∧ w'.cell? (ad188.add (((ji7)).toNat * 2)) = some (.int .i64 ((rd_T82 l0 (ji7)).f0)) ∧ w'.cell? ⟨(ad188.add (((ji7)).toNat * 2)).block, (ad188.add (((ji7)).toNat * 2)).off + 1, none⟩ = some (.int .i64 ((rd_T82 l0 (ji7)).f1)) ∧ w'.cell? (ad188.add ((x3_1).toNat * 2)) = some (.int .i64 ((rd_T82 l0 x3_1).f0)) ∧ w'.cell? ⟨(ad188.add ((x3_1).toNat * 2)).block, (ad188.add ((x3_1).toNat * 2)).off + 1, none⟩ = some (.int .i64 ((rd_T82 l0 x3_1).f1))) (ds := []) #[F,F,F,F,F,F,F,F,F,F,F,F,F,F,F,F,F,F,F,F,F,F] (by kernel_rfl) rfl rfl ⟨(xz HB hw188_0 :), (xz HB hw188_1 :), (xz HB hw190_0 :), (xz HB hw190_1 :), (xz HB hw191_0 :), (xz HB hw191_1 :)⟩ (fun hHeld => ?_); refine with_tabW spec_IsLine.tab4 spec_IsLine.bits4 (fun HT_ HW_ => ?_); generalize wr.drew = w13 at HB hx188_0 hx188_1 hx190_0 hx190_1 hx191_0 hx191_1 hHeld ⊢; refine pz HT_ 0 10 ?_; refine pz HT_ 1 11 ?_; refine pz HT_ 2 12 ?_; refine tz6 HT_ HW_ hHeld 3 13 ?_; refine oz HT_ 4 (some 14) (fun K hK => ?_); refine gz Try.func117 #[.agg #[.int .i64 ((rd_T82 l0 x3_1).f0), .int .i64 ((rd_T82 l0 x3_1).f1)]] ?_
          with_reducible refine (spec_IsPoint.calls ((rd_T82 l0 x3_1).f0) ((rd_T82 l0 x3_1).f1) true _ A4.out).mono ?_
          rintro e w14 ⟨rfl, hb⟩; refine ⟨_, rfl, ?_⟩; replace HB := Aside0.mk (below_step bz hb); (try clear hb); (try clear hb2); (try clear hk); (try clear hi); refine hK.out _ _ ⟨(xz HB hw188_0 :), (xz HB hw188_1 :), (xz HB hw190_0 :), (xz HB hw190_1 :), (xz HB hw191_0 :), (xz HB hw191_1 :)⟩ (fun hHeld => ?_); clear hK K; refine nz 14 ?_; refine pz HT_ 5 15 ?_; refine pz HT_ 6 16 ?_; refine pz HT_ 7 17 ?_; refine pz HT_ 8 18 ?_; refine pz HT_ 9 19 ?_; refine pz HT_ 10 20 ?_; refine pz HT_ 11 21 ?_; refine pz HT_ 12 22 ?_; refine pz HT_ 13 23 ?_; refine pz HT_ 15 25 ?_; refine pz HT_ 16 26 ?_; refine pz HT_ 17 27 ?_; refine tz6 HT_ HW_ hHeld 14 24 ?_; refine tz6 HT_ HW_ hHeld 18 28 ?_; refine pz HT_ 19 29 ?_; refine pz HT_ 20 30 ?_; refine pz HT_ 21 31 ?_; refine dz HT_ ?_; (try go_wp2)
          go_roundg k1
          case measure => have := HK1.out; omega
          case rel => exact ⟨(wrap64 (x3_1 + 1)), rz, H', ⟨by have := HK1.out; omega⟩, ⟨bz⟩⟩
        ·rw [if_neg c9] at H
         exact absurd H (by simp)
       ·rw [if_neg c8] at H
        exact absurd H (by simp)
      ·rw [if_neg c6] at H; have c6b0 := decide_eq_false c6; clear c6; have H' := Aside0.mk H; clear H; (try go_wp2); replace HB := Aside0.mk (below_drew1 HB.out); have p188 : 0 ≤ (x3_1 : Int) := of_decide_eq_true az; have q188 : x3_1 < (l0.length : Int) := of_decide_eq_true az; obtain ⟨ad188, e188, hx188_0, hx188_1⟩ := at_T82 HR0.out x3_1 p188 q188; have hw188_1 := hx188_1; have hw188_0 := hx188_0
       cases e188
       replace hx188_0 := xz HB hx188_0; replace hx188_1 := xz HB hx188_1; replace p188 := eq_true p188; replace q188 := eq_true q188; refine start_ (n := 22) (S := fun w' => w'.cell? (ad188.add ((x3_1).toNat * 2)) = some (.int .i64 ((rd_T82 l0 x3_1).f0)) ∧ w'.cell? ⟨(ad188.add ((x3_1).toNat * 2)).block, (ad188.add ((x3_1).toNat * 2)).off + 1, none⟩ = some (.int .i64 ((rd_T82 l0 x3_1).f1))) (ds := []) #[F,F,F,F,F,F,F,F,F,F,F,F,F,F,F,F,F,F,F,F,F,F] (by kernel_rfl) rfl rfl ⟨(xz HB hw188_0 :), (xz HB hw188_1 :)⟩ (fun hHeld => ?_); refine with_tabW spec_IsLine.tab4 spec_IsLine.bits4 (fun HT_ HW_ => ?_); generalize wr.drew = w15 at HB hx188_0 hx188_1 hHeld ⊢; refine pz HT_ 0 10 ?_; refine pz HT_ 1 11 ?_; refine pz HT_ 2 12 ?_; refine tz2 HT_ HW_ hHeld 3 13 ?_; refine oz HT_ 4 (some 14) (fun K hK => ?_); refine gz Try.func117 #[.agg #[.int .i64 ((rd_T82 l0 x3_1).f0), .int .i64 ((rd_T82 l0 x3_1).f1)]] ?_
       with_reducible refine (spec_IsPoint.calls ((rd_T82 l0 x3_1).f0) ((rd_T82 l0 x3_1).f1) true _ A4.out).mono ?_
       rintro e w16 ⟨rfl, hb⟩; refine ⟨_, rfl, ?_⟩; replace HB := Aside0.mk (below_step bz hb); (try clear hb); (try clear hb2); (try clear hk); (try clear hi); refine hK.out _ _ ⟨(xz HB hw188_0 :), (xz HB hw188_1 :)⟩ (fun hHeld => ?_); clear hK K; refine nz 14 ?_; refine pz HT_ 5 15 ?_; refine pz HT_ 6 16 ?_; refine pz HT_ 7 17 ?_; refine pz HT_ 8 18 ?_; refine pz HT_ 9 19 ?_; refine uz HT_ 10 20 ?_; refine uz HT_ 11 21 ?_; refine uz HT_ 12 22 ?_; refine uz HT_ 13 23 ?_; refine uz HT_ 14 24 ?_; refine uz HT_ 15 25 ?_; refine uz HT_ 16 26 ?_; refine uz HT_ 17 27 ?_; refine uz HT_ 18 28 ?_; refine uz HT_ 19 29 ?_; refine pz HT_ 20 30 ?_; refine pz HT_ 21 31 ?_; refine dz HT_ ?_; (try go_wp2)
       go_roundg k1
       case measure => have := HK1.out; omega
       case rel => exact ⟨(wrap64 (x3_1 + 1)), rz, H', ⟨by have := HK1.out; omega⟩, ⟨bz⟩⟩
     ·replace c5 := Bool.eq_false_iff.mpr c5; subst c5; replace H := iff_ H; obtain rfl := Option.some.inj H; (try go_wp2); replace HB := Aside0.mk (below_drew1 HB.out); have p188 : 0 ≤ (x3_1 : Int) := of_decide_eq_true az; have q188 : x3_1 < (l0.length : Int) := of_decide_eq_true az; obtain ⟨ad188, e188, hx188_0, hx188_1⟩ := at_T82 HR0.out x3_1 p188 q188; have hw188_1 := hx188_1; have hw188_0 := hx188_0
      cases e188
      replace hx188_0 := xz HB hx188_0; replace hx188_1 := xz HB hx188_1; replace p188 := eq_true p188; replace q188 := eq_true q188; refine start_ (n := 22) (S := fun w' => w'.cell? (ad188.add ((x3_1).toNat * 2)) = some (.int .i64 ((rd_T82 l0 x3_1).f0)) ∧ w'.cell? ⟨(ad188.add ((x3_1).toNat * 2)).block, (ad188.add ((x3_1).toNat * 2)).off + 1, none⟩ = some (.int .i64 ((rd_T82 l0 x3_1).f1))) (ds := []) #[F,F,F,F,F,F,F,F,F,F,F,F,F,F,F,F,F,F,F,F,F,F] (by kernel_rfl) rfl rfl ⟨(xz HB hw188_0 :), (xz HB hw188_1 :)⟩ (fun hHeld => ?_); refine with_tabW spec_IsLine.tab4 spec_IsLine.bits4 (fun HT_ HW_ => ?_); generalize wr.drew = w17 at HB hx188_0 hx188_1 hHeld ⊢; refine pz HT_ 0 10 ?_; refine pz HT_ 1 11 ?_; refine pz HT_ 2 12 ?_; refine tz2 HT_ HW_ hHeld 3 13 ?_; refine oz HT_ 4 (some 14) (fun K hK => ?_); refine gz Try.func117 #[.agg #[.int .i64 ((rd_T82 l0 x3_1).f0), .int .i64 ((rd_T82 l0 x3_1).f1)]] ?_
      with_reducible refine (spec_IsPoint.calls ((rd_T82 l0 x3_1).f0) ((rd_T82 l0 x3_1).f1) false _ A4.out).mono ?_
      rintro e w18 ⟨rfl, hb⟩; refine ⟨_, rfl, ?_⟩; replace HB := Aside0.mk (below_step bz hb); (try clear hb); (try clear hb2); (try clear hk); (try clear hi); refine hK.out _ _ ⟨(xz HB hw188_0 :), (xz HB hw188_1 :)⟩ (fun hHeld => ?_); clear hK K; refine nz 14 ?_; refine pz HT_ 5 15 ?_; refine pz HT_ 6 16 ?_; refine uz HT_ 7 17 ?_; refine uz HT_ 8 18 ?_; refine uz HT_ 9 19 ?_; refine uz HT_ 10 20 ?_; refine uz HT_ 11 21 ?_; refine uz HT_ 12 22 ?_; refine uz HT_ 13 23 ?_; refine uz HT_ 14 24 ?_; refine uz HT_ 15 25 ?_; refine uz HT_ 16 26 ?_; refine uz HT_ 17 27 ?_; refine uz HT_ 18 28 ?_; refine uz HT_ 19 29 ?_; refine uz HT_ 20 30 ?_; refine pz HT_ 21 31 ?_; refine dz HT_ ?_; (try go_wp2); go_ret
      exact ⟨ez, bz⟩
    ·rw [if_neg c3] at H
     exact absurd H (by simp)
   ·rw [if_neg c2] at H; have c2b0 := decide_eq_false c2; clear c2; replace H := Option.bind_eq_some_iff.mp H; obtain ⟨t192, A190, H⟩ := H; have A19 := Aside0.mk A190; clear A190; obtain rfl := Option.some.inj H; go_wp2_with (first | ((with_reducible refine gt (some 34) rfl ?_); refine gc Try.func71 (spec_l1In.calls (l0.length : Int) 2 10 t192 _ A19.out) ?_; rintro e w' ⟨rfl, ⟨nd, rfl⟩⟩; refine ⟨_, rfl, ?_⟩)); go_ret
    exact ⟨ez, bz⟩

end Go.Proofs.Ytdfehjfmihokpaa.PFnExactAllPieces
