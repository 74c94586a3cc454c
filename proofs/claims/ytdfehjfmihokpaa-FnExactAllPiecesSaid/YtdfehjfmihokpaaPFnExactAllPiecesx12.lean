-- Written by a program of this session's: the kit's print, turned (turnprint.py): functions, and that Go comes to just their answers.
import Derived.Test.YtdfehjfmihokpaaZ
import Derived.Test.YtdfehjfmihokpaaPFnExactAllPiecesx0
import Derived.Test.YtdfehjfmihokpaaPFnExactAllPiecesx7
import Derived.Test.YtdfehjfmihokpaaPFnExactAllPiecesx10
import Derived.Test.YtdfehjfmihokpaaPFnExactAllPiecesx11
namespace Go.Proofs.Ytdfehjfmihokpaa.PFnExactAllPieces
open Go.RowKit Go.Proofs.YtdfehjfmihokpaaW.PrintWords Go.Proofs.YtdfehjfmihokpaaW.PrintLast Go.Proofs.YtdfehjfmihokpaaW.PrintMore Go.Proofs.YtdfehjfmihokpaaGeo Go.Proofs.YtdfehjfmihokpaaHand Go.Proofs.YtdfehjfmihokpaaMeet Go.Proofs.YtdfehjfmihokpaaQuiet Go.Proofs.YtdfehjfmihokpaaZ
attribute [local go_sem] max2_int min2_int max_two min_two max_three min_three max_four min_four   -- for this text's walks alone
set_option linter.unusedVariables false
set_option linter.unusedSimpArgs false

/-! ### spec_IsSimple: function 118 -/
mutual
def spec_IsSimple.l0 : Nat → List (S82) → List (S85) → Int → Option (Bool)
 | 0, _, _, _ => none
 | k + 1, x0, x3, x4 => if x4 < (x3.length : Int) then (spec_IsSimple.l1 k x0 x3 x4 0) else ((spec_IsLine.f k x0).bind fun t205 => (some t205))
def spec_IsSimple.l1 : Nat → List (S82) → List (S85) → Int → Int → Option (Bool)
 | 0, _, _, _, _ => none
 | k + 1, x0, x3, x4, x5 => if x5 < x4 then (if (wrap64 (x5 + 1)) = x4 then (if 0 ≤ x4 then (if x4 < (x3.length : Int) then (if 0 ≤ x5 then (if x5 < (x3.length : Int) then ((spec_HowMeet.f ((rd_T85 x3 x4).f0.f0) ((rd_T85 x3 x4).f0.f1) ((rd_T85 x3 x4).f1.f0) ((rd_T85 x3 x4).f1.f1) ((rd_T85 x3 x5).f0.f0) ((rd_T85 x3 x5).f0.f1) ((rd_T85 x3 x5).f1.f0) ((rd_T85 x3 x5).f1.f1)).bind fun t208 => (if t208 = 1 then (spec_IsSimple.l1 k x0 x3 x4 (wrap64 (x5 + 1))) else (some false))) else (none)) else (none)) else (none)) else (none)) else (if 0 ≤ x4 then (if x4 < (x3.length : Int) then (if 0 ≤ x5 then (if x5 < (x3.length : Int) then ((spec_HowMeet.f ((rd_T85 x3 x4).f0.f0) ((rd_T85 x3 x4).f0.f1) ((rd_T85 x3 x4).f1.f0) ((rd_T85 x3 x4).f1.f1) ((rd_T85 x3 x5).f0.f0) ((rd_T85 x3 x5).f0.f1) ((rd_T85 x3 x5).f1.f0) ((rd_T85 x3 x5).f1.f1)).bind fun t211 => (if t211 = 0 then (spec_IsSimple.l1 k x0 x3 x4 (wrap64 (x5 + 1))) else (some false))) else (none)) else (none)) else (none)) else (none))) else (spec_IsSimple.l0 k x0 x3 (wrap64 (x4 + 1)))
end
def spec_IsSimple.f (k : Nat) (l0 : List (S82)) : Option (Bool) := (spec_SegmentsOf.f k l0).bind fun t202 => (spec_IsSimple.l0 k l0 t202 0)
theorem spec_IsSimple.mono_l : ∀ k, (∀ y0 y1 y2, LeO (spec_IsSimple.l0 k y0 y1 y2) (spec_IsSimple.l0 (k + 1) y0 y1 y2)) ∧ (∀ y0 y1 y2 y3, LeO (spec_IsSimple.l1 k y0 y1 y2 y3) (spec_IsSimple.l1 (k + 1) y0 y1 y2 y3))
 | 0 => ⟨fun _ _ _ r h => by simp [spec_IsSimple.l0] at h, fun _ _ _ _ r h => by simp [spec_IsSimple.l1] at h⟩
 | k + 1 => by
  obtain ⟨ih0, ih1⟩ := spec_IsSimple.mono_l k; refine ⟨?_, ?_⟩
  ·intro y0 y1 y2
   unfold spec_IsSimple.l0
   repeat' first | (with_reducible first | exact ih0 _ _ _ | exact ih1 _ _ _ _ | exact spec_IsLine.mono _ _ | exact spec_SegmentsOf.mono _ _ | exact LeO.refl _ | exact LeO.none _ | refine LeO.ite ?_ ?_ | refine LeO.bind ?_ (fun _ => ?_)) | exact ih0 _ _ _ | exact ih1 _ _ _ _ | exact spec_IsLine.mono _ _ | exact spec_SegmentsOf.mono _ _ | exact LeO.none _ | refine LeO.ite ?_ ?_ | refine LeO.bind ?_ (fun _ => ?_)
  ·intro y0 y1 y2 y3
   unfold spec_IsSimple.l1
   repeat' first | (with_reducible first | exact ih0 _ _ _ | exact ih1 _ _ _ _ | exact spec_IsLine.mono _ _ | exact spec_SegmentsOf.mono _ _ | exact LeO.refl _ | exact LeO.none _ | refine LeO.ite ?_ ?_ | refine LeO.bind ?_ (fun _ => ?_)) | exact ih0 _ _ _ | exact ih1 _ _ _ _ | exact spec_IsLine.mono _ _ | exact spec_SegmentsOf.mono _ _ | exact LeO.none _ | refine LeO.ite ?_ ?_ | refine LeO.bind ?_ (fun _ => ?_)
theorem spec_IsSimple.mono : ∀ a0 k, LeO (spec_IsSimple.f k a0) (spec_IsSimple.f (k + 1) a0) := by
 intro a0 k; obtain ⟨ih0, ih1⟩ := spec_IsSimple.mono_l k
 unfold spec_IsSimple.f
 repeat' first | (with_reducible first | exact ih0 _ _ _ | exact ih1 _ _ _ _ | exact spec_IsLine.mono _ _ | exact spec_SegmentsOf.mono _ _ | exact LeO.refl _ | exact LeO.none _ | refine LeO.ite ?_ ?_ | refine LeO.bind ?_ (fun _ => ?_)) | exact ih0 _ _ _ | exact ih1 _ _ _ _ | exact spec_IsLine.mono _ _ | exact spec_SegmentsOf.mono _ _ | exact LeO.none _ | refine LeO.ite ?_ ?_ | refine LeO.bind ?_ (fun _ => ?_)
def spec_IsSimple.T11 : Bool × List (List Nat × List Nat) := (true, [([], []), ([], []), ([0, 1], [0, 1]), ([2], [2]), ([], []), ([], []), ([4, 5], [4, 5]), ([6], [6]), ([3, 7], [3, 7]), ([], []), ([8, 9], [8, 9])])
def spec_IsSimple.B11 : List Nat := [0, 0, 3, 7, 0, 0, 48, 112, 255, 0, 1023]
theorem spec_IsSimple.tab11 : rtab .any (opsOf Try.f118 11) = spec_IsSimple.T11 := by kernel_rfl
theorem spec_IsSimple.bits11 : waitsOk spec_IsSimple.T11.2 spec_IsSimple.B11 = true := by kernel_rfl
set_option maxHeartbeats 8000000 in
set_option maxRecDepth 100000 in
theorem spec_IsSimple.calls (k : Nat) (A0 : Option Addr) (c0 : Nat) (l0 : List (S82)) (r : Bool) (w : World) (hr0 : Kd.C k82 w A0 l0.length l0) (hc0 : l0.length ≤ c0) (h : spec_IsSimple.f k l0 = some r) :
  Calls Try.prog 118 #[.slice A0 l0.length c0] w fun e w' => e = .returned (.bool r) ∧ Below w.heap.size w w' := by
 have hu85 := Try.underlying85; have HR0 := Aside0.mk hr0; have HC0 := Aside0.mk hc0; clear hr0 hc0; have HB := Aside0.mk (Below.refl w.heap.size w); have H : ((spec_SegmentsOf.f k l0).bind fun t202 => (spec_IsSimple.l0 k l0 t202 0)) = some r := h; clear h; replace H := Option.bind_eq_some_iff.mp H; obtain ⟨t202, A20, H⟩ := H; have A2 := Aside0.mk A20; clear A20; have H' := Aside0.mk H; clear H
 go_enter Try.func118, Try.ntmps118; go_wp2_with (first | ((with_reducible refine gt (some 8) rfl ?_); refine gc Try.func119 (spec_SegmentsOf.calls k _ _ l0 t202 _ (cz HR0.out) HC0.out A2.out) ?_; rintro e w3 ⟨v203, rfl, ho0, hb⟩; refine ⟨_, rfl, ?_⟩; have HO204 := Aside0.mk (Kd.R_lower ho0 (below_size bz)); replace HB := Aside0.mk (below_step bz hb); (try clear hb); (try clear ho0)))
 go_loopg [4] k (fun kq v4 w' => ∃ (x4_1 : Int), v4 = .int .i64 x4_1 ∧ Aside0 (spec_IsSimple.l0 kq l0 t202 x4_1 = some r) ∧ Aside0 (kq ≤ k) ∧ Aside0 (Kd.R k85 85 w' w.heap.size (fun _ => True) v203 t202) ∧ Aside0 (Below w.heap.size w w'))
 case atStart => exact ⟨(0), rz, H', ⟨Nat.le_refl _⟩, ⟨hr HO204.out⟩, ⟨bz⟩⟩
 case round =>
  clear H'; (try clear c1); (try clear p2); obtain ⟨x4_1, rfl, HA, HK1, HO_3, HB⟩ := hrel
  cases gk with
  | zero => exact absurd HA.out (by simp [spec_IsSimple.l0])
  | succ k1 =>
   have H := HA.out; clear HA; simp only [spec_IsSimple.l0] at H
   by_cases c4 : x4_1 < (t202.length : Int)
   ·rw [if_pos c4] at H; have c4b0 := decide_eq_true c4; clear c4; have H' := Aside0.mk H; clear H; obtain ⟨Ao5, co5, eo5⟩ := Kd.R_slice HO_3.out; subst eo5; go_wp2
    go_loopg [5] k1 (fun kq v5 w' => ∃ (x5_2 : Int), v5 = .int .i64 x5_2 ∧ Aside0 (spec_IsSimple.l1 kq l0 t202 x4_1 x5_2 = some r) ∧ Aside0 (kq ≤ k1) ∧ Aside0 (Kd.R k85 85 w' w.heap.size (fun _ => True) (.slice Ao5 t202.length co5) t202) ∧ Aside0 (Below w.heap.size w w'))
    case atStart => exact ⟨(0), rz, H', ⟨Nat.le_refl _⟩, ⟨hr HO_3.out⟩, ⟨bz⟩⟩
    case round =>
     clear H'; (try clear c1); (try clear p2); (try clear c4); (try clear c4b0); (try clear p2); obtain ⟨x5_2, rfl, HA, HK2, HO_3, HB⟩ := hrel
     cases gk with
     | zero => exact absurd HA.out (by simp [spec_IsSimple.l1])
     | succ k2 =>
      have H := HA.out; clear HA; simp only [spec_IsSimple.l1] at H
      by_cases c6 : x5_2 < x4_1
      ·rw [if_pos c6] at H; have c6b0 := decide_eq_true c6; clear c6
       by_cases c7 : (wrap64 (x5_2 + 1)) = x4_1
       ·rw [if_pos c7] at H; have c7b0 : ((wrap64 (x5_2 + 1)) == x4_1) = true := beq_iff_eq.mpr c7; have c7b1 : ((wrap64 (x5_2 + 1)) != x4_1) = false := bne_eq_false_iff_eq.mpr c7; clear c7
        by_cases c8 : 0 ≤ x4_1
        ·rw [if_pos c8] at H; have c8b0 := decide_eq_true c8; clear c8
         by_cases c9 : x4_1 < (t202.length : Int)
         ·rw [if_pos c9] at H; have c9b0 := decide_eq_true c9; clear c9
          by_cases c10 : 0 ≤ x5_2
          ·rw [if_pos c10] at H; have c10b0 := decide_eq_true c10; clear c10
           by_cases c11 : x5_2 < (t202.length : Int)
           ·rw [if_pos c11] at H; have c11b0 := decide_eq_true c11; clear c11; replace H := Option.bind_eq_some_iff.mp H; obtain ⟨t208, A120, H⟩ := H; have A12 := Aside0.mk A120; clear A120
            by_cases c13 : t208 = 1
            ·rw [if_pos c13] at H; have c13b0 : (t208 == 1) = true := beq_iff_eq.mpr c13; have c13b1 : (t208 != 1) = false := bne_eq_false_iff_eq.mpr c13; clear c13; have H' := Aside0.mk H; clear H; (try go_wp2); replace HO_3 := Aside0.mk (Kd.R_drew HO_3.out); replace HB := Aside0.mk (below_drew1 HB.out); have p206 : 0 ≤ (x4_1 : Int) := of_decide_eq_true az; have q206 : x4_1 < (t202.length : Int) := of_decide_eq_true az; obtain ⟨ad206, e206, hx206_0, hx206_1, hx206_2, hx206_3⟩ := at_T85 (Kd.R_reads' HO_3.out).2.2 x4_1 p206 q206
             cases e206
             replace p206 := eq_true p206; replace q206 := eq_true q206; have p207 : 0 ≤ (x5_2 : Int) := of_decide_eq_true az; have q207 : x5_2 < (t202.length : Int) := of_decide_eq_true az; obtain ⟨ad207, e207, hx207_0, hx207_1, hx207_2, hx207_3⟩ := at_T85 (Kd.R_reads' HO_3.out).2.2 x5_2 p207 q207; obtain rfl : ad206 = ad207 := (by injection e207)
             replace p207 := eq_true p207; replace q207 := eq_true q207; refine start_ (n := 11) (S := fun w' => w'.cell? (ad206.add ((x4_1).toNat * 4)) = some (.int .i64 ((rd_T85 t202 x4_1).f0.f0)) ∧ w'.cell? ⟨(ad206.add ((x4_1).toNat * 4)).block, (ad206.add ((x4_1).toNat * 4)).off + 1, none⟩ = some (.int .i64 ((rd_T85 t202 x4_1).f0.f1)) ∧ w'.cell? ⟨(ad206.add ((x4_1).toNat * 4)).block, (ad206.add ((x4_1).toNat * 4)).off + 2, none⟩ = some (.int .i64 ((rd_T85 t202 x4_1).f1.f0)) ∧ w'.cell? ⟨(ad206.add ((x4_1).toNat * 4)).block, (ad206.add ((x4_1).toNat * 4)).off + 3, none⟩ = some (.int .i64 ((rd_T85 t202 x4_1).f1.f1)) ∧ w'.cell? (ad206.add ((x5_2).toNat * 4)) = some (.int .i64 ((rd_T85 t202 x5_2).f0.f0)) ∧ w'.cell? ⟨(ad206.add ((x5_2).toNat * 4)).block, (ad206.add ((x5_2).toNat * 4)).off + 1, none⟩ = some (.int .i64 ((rd_T85 t202 x5_2).f0.f1)) ∧ w'.cell? ⟨(ad206.add ((x5_2).toNat * 4)).block, (ad206.add ((x5_2).toNat * 4)).off + 2, none⟩ = some (.int .i64 ((rd_T85 t202 x5_2).f1.f0)) ∧ w'.cell? ⟨(ad206.add ((x5_2).toNat * 4)).block, (ad206.add ((x5_2).toNat * 4)).off + 3, none⟩ = some (.int .i64 ((rd_T85 t202 x5_2).f1.f1))) (ds := []) #[F,F,F,F,F,F,F,F,F,F,F] (by kernel_rfl) rfl rfl ⟨hx206_0, hx206_1, hx206_2, hx206_3, hx207_0, hx207_1, hx207_2, hx207_3⟩ (fun hHeld => ?_); refine with_tabW spec_IsSimple.tab11 spec_IsSimple.bits11 (fun HT_ HW_ => ?_); generalize wr.drew = w14 at HO_3 HB hx206_0 hx206_1 hx206_2 hx206_3 hx207_0 hx207_1 hx207_2 hx207_3 hHeld ⊢; refine pz HT_ 0 24 ?_; refine pz HT_ 1 25 ?_; refine pz HT_ 2 26 ?_; refine pz HT_ 4 28 ?_; refine pz HT_ 5 29 ?_; refine pz HT_ 6 30 ?_; refine pz HT_ 9 33 ?_; refine tz8 HT_ HW_ hHeld 3 27 ?_; refine tz8 HT_ HW_ hHeld 7 31 ?_
             refine oz HT_ 8 (some 32) (fun K hK => ?_); refine gz Try.func145 #[.agg #[.int .i64 ((rd_T85 t202 x4_1).f0.f0), .int .i64 ((rd_T85 t202 x4_1).f0.f1), .int .i64 ((rd_T85 t202 x4_1).f1.f0), .int .i64 ((rd_T85 t202 x4_1).f1.f1)], .agg #[.int .i64 ((rd_T85 t202 x5_2).f0.f0), .int .i64 ((rd_T85 t202 x5_2).f0.f1), .int .i64 ((rd_T85 t202 x5_2).f1.f0), .int .i64 ((rd_T85 t202 x5_2).f1.f1)]] ?_
             with_reducible refine (spec_HowMeet.calls ((rd_T85 t202 x4_1).f0.f0) ((rd_T85 t202 x4_1).f0.f1) ((rd_T85 t202 x4_1).f1.f0) ((rd_T85 t202 x4_1).f1.f1) ((rd_T85 t202 x5_2).f0.f0) ((rd_T85 t202 x5_2).f0.f1) ((rd_T85 t202 x5_2).f1.f0) ((rd_T85 t202 x5_2).f1.f1) t208 _ A12.out).mono ?_
             rintro e w15 ⟨rfl, hb⟩; have HS0_ := yz hb hHeld.1; have HS1_ := yz hb hHeld.2.1; have HS2_ := yz hb hHeld.2.2.1; have HS3_ := yz hb hHeld.2.2.2.1; have HS4_ := yz hb hHeld.2.2.2.2.1; have HS5_ := yz hb hHeld.2.2.2.2.2.1; have HS6_ := yz hb hHeld.2.2.2.2.2.2.1; have HS7_ := yz hb hHeld.2.2.2.2.2.2.2; refine ⟨_, rfl, ?_⟩; replace HO_3 := Aside0.mk (rbz HO_3 hb); replace HB := Aside0.mk (below_step bz hb); (try clear hb); (try clear hb2); (try clear hk); (try clear hi); refine hK.out _ _ ⟨HS0_, HS1_, HS2_, HS3_, HS4_, HS5_, HS6_, HS7_⟩ (fun hHeld => ?_); clear hK K; refine nz 32 ?_; refine pz HT_ 10 34 ?_; refine dz HT_ ?_; (try go_wp2)
             go_roundg k2
             case measure => have := HK1.out; have := HK2.out; omega
             case rel => exact ⟨(wrap64 (x5_2 + 1)), rz, H', ⟨by have := HK1.out; have := HK2.out; omega⟩, ⟨hr HO_3.out⟩, ⟨bz⟩⟩
            ·rw [if_neg c13] at H; have c13b0 : (t208 == 1) = false := beq_eq_false_iff_ne.mpr c13; have c13b1 : (t208 != 1) = true := bne_iff_ne.mpr c13; obtain rfl := Option.some.inj H; (try go_wp2); replace HO_3 := Aside0.mk (Kd.R_drew HO_3.out); replace HB := Aside0.mk (below_drew1 HB.out); have p206 : 0 ≤ (x4_1 : Int) := of_decide_eq_true az; have q206 : x4_1 < (t202.length : Int) := of_decide_eq_true az; obtain ⟨ad206, e206, hx206_0, hx206_1, hx206_2, hx206_3⟩ := at_T85 (Kd.R_reads' HO_3.out).2.2 x4_1 p206 q206
             cases e206
             replace p206 := eq_true p206; replace q206 := eq_true q206; have p207 : 0 ≤ (x5_2 : Int) := of_decide_eq_true az; have q207 : x5_2 < (t202.length : Int) := of_decide_eq_true az; obtain ⟨ad207, e207, hx207_0, hx207_1, hx207_2, hx207_3⟩ := at_T85 (Kd.R_reads' HO_3.out).2.2 x5_2 p207 q207; obtain rfl : ad206 = ad207 := (by injection e207)
             replace p207 := eq_true p207; replace q207 := eq_true q207; refine start_ (n := 11) (S := fun w' => w'.cell? (ad206.add ((x4_1).toNat * 4)) = some (.int .i64 ((rd_T85 t202 x4_1).f0.f0)) ∧ w'.cell? ⟨(ad206.add ((x4_1).toNat * 4)).block, (ad206.add ((x4_1).toNat * 4)).off + 1, none⟩ = some (.int .i64 ((rd_T85 t202 x4_1).f0.f1)) ∧ w'.cell? ⟨(ad206.add ((x4_1).toNat * 4)).block, (ad206.add ((x4_1).toNat * 4)).off + 2, none⟩ = some (.int .i64 ((rd_T85 t202 x4_1).f1.f0)) ∧ w'.cell? ⟨(ad206.add ((x4_1).toNat * 4)).block, (ad206.add ((x4_1).toNat * 4)).off + 3, none⟩ = some (.int .i64 ((rd_T85 t202 x4_1).f1.f1)) ∧ w'.cell? (ad206.add ((x5_2).toNat * 4)) = some (.int .i64 ((rd_T85 t202 x5_2).f0.f0)) ∧ w'.cell? ⟨(ad206.add ((x5_2).toNat * 4)).block, (ad206.add ((x5_2).toNat * 4)).off + 1, none⟩ = some (.int .i64 ((rd_T85 t202 x5_2).f0.f1)) ∧ w'.cell? ⟨(ad206.add ((x5_2).toNat * 4)).block, (ad206.add ((x5_2).toNat * 4)).off + 2, none⟩ = some (.int .i64 ((rd_T85 t202 x5_2).f1.f0)) ∧ w'.cell? ⟨(ad206.add ((x5_2).toNat * 4)).block, (ad206.add ((x5_2).toNat * 4)).off + 3, none⟩ = some (.int .i64 ((rd_T85 t202 x5_2).f1.f1))) (ds := []) #[F,F,F,F,F,F,F,F,F,F,F] (by kernel_rfl) rfl rfl ⟨hx206_0, hx206_1, hx206_2, hx206_3, hx207_0, hx207_1, hx207_2, hx207_3⟩ (fun hHeld => ?_); refine with_tabW spec_IsSimple.tab11 spec_IsSimple.bits11 (fun HT_ HW_ => ?_); generalize wr.drew = w16 at HO_3 HB hx206_0 hx206_1 hx206_2 hx206_3 hx207_0 hx207_1 hx207_2 hx207_3 hHeld ⊢; refine pz HT_ 0 24 ?_; refine pz HT_ 1 25 ?_; refine pz HT_ 2 26 ?_; refine pz HT_ 4 28 ?_; refine pz HT_ 5 29 ?_; refine pz HT_ 6 30 ?_; refine pz HT_ 9 33 ?_; refine tz8 HT_ HW_ hHeld 3 27 ?_; refine tz8 HT_ HW_ hHeld 7 31 ?_
             refine oz HT_ 8 (some 32) (fun K hK => ?_); refine gz Try.func145 #[.agg #[.int .i64 ((rd_T85 t202 x4_1).f0.f0), .int .i64 ((rd_T85 t202 x4_1).f0.f1), .int .i64 ((rd_T85 t202 x4_1).f1.f0), .int .i64 ((rd_T85 t202 x4_1).f1.f1)], .agg #[.int .i64 ((rd_T85 t202 x5_2).f0.f0), .int .i64 ((rd_T85 t202 x5_2).f0.f1), .int .i64 ((rd_T85 t202 x5_2).f1.f0), .int .i64 ((rd_T85 t202 x5_2).f1.f1)]] ?_
             with_reducible refine (spec_HowMeet.calls ((rd_T85 t202 x4_1).f0.f0) ((rd_T85 t202 x4_1).f0.f1) ((rd_T85 t202 x4_1).f1.f0) ((rd_T85 t202 x4_1).f1.f1) ((rd_T85 t202 x5_2).f0.f0) ((rd_T85 t202 x5_2).f0.f1) ((rd_T85 t202 x5_2).f1.f0) ((rd_T85 t202 x5_2).f1.f1) t208 _ A12.out).mono ?_
             rintro e w17 ⟨rfl, hb⟩; have HS0_ := yz hb hHeld.1; have HS1_ := yz hb hHeld.2.1; have HS2_ := yz hb hHeld.2.2.1; have HS3_ := yz hb hHeld.2.2.2.1; have HS4_ := yz hb hHeld.2.2.2.2.1; have HS5_ := yz hb hHeld.2.2.2.2.2.1; have HS6_ := yz hb hHeld.2.2.2.2.2.2.1; have HS7_ := yz hb hHeld.2.2.2.2.2.2.2; refine ⟨_, rfl, ?_⟩; replace HO_3 := Aside0.mk (rbz HO_3 hb); replace HB := Aside0.mk (below_step bz hb); (try clear hb); (try clear hb2); (try clear hk); (try clear hi); refine hK.out _ _ ⟨HS0_, HS1_, HS2_, HS3_, HS4_, HS5_, HS6_, HS7_⟩ (fun hHeld => ?_); clear hK K; refine nz 32 ?_; refine pz HT_ 10 34 ?_; refine dz HT_ ?_; (try go_wp2); go_ret
             exact ⟨ez, bz⟩
           ·rw [if_neg c11] at H
            exact absurd H (by simp)
          ·rw [if_neg c10] at H
           exact absurd H (by simp)
         ·rw [if_neg c9] at H
          exact absurd H (by simp)
        ·rw [if_neg c8] at H
         exact absurd H (by simp)
       ·rw [if_neg c7] at H; have c7b0 : ((wrap64 (x5_2 + 1)) == x4_1) = false := beq_eq_false_iff_ne.mpr c7; have c7b1 : ((wrap64 (x5_2 + 1)) != x4_1) = true := bne_iff_ne.mpr c7
        by_cases c18 : 0 ≤ x4_1
        ·rw [if_pos c18] at H; have c18b0 := decide_eq_true c18; clear c18
         by_cases c19 : x4_1 < (t202.length : Int)
         ·rw [if_pos c19] at H; have c19b0 := decide_eq_true c19; clear c19
          by_cases c20 : 0 ≤ x5_2
          ·rw [if_pos c20] at H; have c20b0 := decide_eq_true c20; clear c20
           by_cases c21 : x5_2 < (t202.length : Int)
           ·rw [if_pos c21] at H; have c21b0 := decide_eq_true c21; clear c21; replace H := Option.bind_eq_some_iff.mp H; obtain ⟨t211, A220, H⟩ := H; have A22 := Aside0.mk A220; clear A220
            by_cases c23 : t211 = 0
            ·rw [if_pos c23] at H; have c23b0 : (t211 == 0) = true := beq_iff_eq.mpr c23; have c23b1 : (t211 != 0) = false := bne_eq_false_iff_eq.mpr c23; clear c23; have H' := Aside0.mk H; clear H; (try go_wp2); replace HO_3 := Aside0.mk (Kd.R_drew HO_3.out); replace HB := Aside0.mk (below_drew1 HB.out); have p209 : 0 ≤ (x4_1 : Int) := of_decide_eq_true az; have q209 : x4_1 < (t202.length : Int) := of_decide_eq_true az; obtain ⟨ad209, e209, hx209_0, hx209_1, hx209_2, hx209_3⟩ := at_T85 (Kd.R_reads' HO_3.out).2.2 x4_1 p209 q209
             cases e209
             replace p209 := eq_true p209; replace q209 := eq_true q209; have p210 : 0 ≤ (x5_2 : Int) := of_decide_eq_true az; have q210 : x5_2 < (t202.length : Int) := of_decide_eq_true az; obtain ⟨ad210, e210, hx210_0, hx210_1, hx210_2, hx210_3⟩ := at_T85 (Kd.R_reads' HO_3.out).2.2 x5_2 p210 q210; obtain rfl : ad209 = ad210 := (by injection e210)
             replace p210 := eq_true p210; replace q210 := eq_true q210; refine start_ (n := 11) (S := fun w' => w'.cell? (ad209.add ((x4_1).toNat * 4)) = some (.int .i64 ((rd_T85 t202 x4_1).f0.f0)) ∧ w'.cell? ⟨(ad209.add ((x4_1).toNat * 4)).block, (ad209.add ((x4_1).toNat * 4)).off + 1, none⟩ = some (.int .i64 ((rd_T85 t202 x4_1).f0.f1)) ∧ w'.cell? ⟨(ad209.add ((x4_1).toNat * 4)).block, (ad209.add ((x4_1).toNat * 4)).off + 2, none⟩ = some (.int .i64 ((rd_T85 t202 x4_1).f1.f0)) ∧ w'.cell? ⟨(ad209.add ((x4_1).toNat * 4)).block, (ad209.add ((x4_1).toNat * 4)).off + 3, none⟩ = some (.int .i64 ((rd_T85 t202 x4_1).f1.f1)) ∧ w'.cell? (ad209.add ((x5_2).toNat * 4)) = some (.int .i64 ((rd_T85 t202 x5_2).f0.f0)) ∧ w'.cell? ⟨(ad209.add ((x5_2).toNat * 4)).block, (ad209.add ((x5_2).toNat * 4)).off + 1, none⟩ = some (.int .i64 ((rd_T85 t202 x5_2).f0.f1)) ∧ w'.cell? ⟨(ad209.add ((x5_2).toNat * 4)).block, (ad209.add ((x5_2).toNat * 4)).off + 2, none⟩ = some (.int .i64 ((rd_T85 t202 x5_2).f1.f0)) ∧ w'.cell? ⟨(ad209.add ((x5_2).toNat * 4)).block, (ad209.add ((x5_2).toNat * 4)).off + 3, none⟩ = some (.int .i64 ((rd_T85 t202 x5_2).f1.f1))) (ds := []) #[F,F,F,F,F,F,F,F,F,F,F] (by kernel_rfl) rfl rfl ⟨hx209_0, hx209_1, hx209_2, hx209_3, hx210_0, hx210_1, hx210_2, hx210_3⟩ (fun hHeld => ?_); refine with_tabW spec_IsSimple.tab11 spec_IsSimple.bits11 (fun HT_ HW_ => ?_); generalize wr.drew = w24 at HO_3 HB hx209_0 hx209_1 hx209_2 hx209_3 hx210_0 hx210_1 hx210_2 hx210_3 hHeld ⊢; refine pz HT_ 0 24 ?_; refine pz HT_ 1 25 ?_; refine pz HT_ 2 26 ?_; refine pz HT_ 4 28 ?_; refine pz HT_ 5 29 ?_; refine pz HT_ 6 30 ?_; refine pz HT_ 9 33 ?_; refine tz8 HT_ HW_ hHeld 3 27 ?_; refine tz8 HT_ HW_ hHeld 7 31 ?_
             refine oz HT_ 8 (some 32) (fun K hK => ?_); refine gz Try.func145 #[.agg #[.int .i64 ((rd_T85 t202 x4_1).f0.f0), .int .i64 ((rd_T85 t202 x4_1).f0.f1), .int .i64 ((rd_T85 t202 x4_1).f1.f0), .int .i64 ((rd_T85 t202 x4_1).f1.f1)], .agg #[.int .i64 ((rd_T85 t202 x5_2).f0.f0), .int .i64 ((rd_T85 t202 x5_2).f0.f1), .int .i64 ((rd_T85 t202 x5_2).f1.f0), .int .i64 ((rd_T85 t202 x5_2).f1.f1)]] ?_
             with_reducible refine (spec_HowMeet.calls ((rd_T85 t202 x4_1).f0.f0) ((rd_T85 t202 x4_1).f0.f1) ((rd_T85 t202 x4_1).f1.f0) ((rd_T85 t202 x4_1).f1.f1) ((rd_T85 t202 x5_2).f0.f0) ((rd_T85 t202 x5_2).f0.f1) ((rd_T85 t202 x5_2).f1.f0) ((rd_T85 t202 x5_2).f1.f1) t211 _ A22.out).mono ?_
             rintro e w25 ⟨rfl, hb⟩; have HS0_ := yz hb hHeld.1; have HS1_ := yz hb hHeld.2.1; have HS2_ := yz hb hHeld.2.2.1; have HS3_ := yz hb hHeld.2.2.2.1; have HS4_ := yz hb hHeld.2.2.2.2.1; have HS5_ := yz hb hHeld.2.2.2.2.2.1; have HS6_ := yz hb hHeld.2.2.2.2.2.2.1; have HS7_ := yz hb hHeld.2.2.2.2.2.2.2; refine ⟨_, rfl, ?_⟩; replace HO_3 := Aside0.mk (rbz HO_3 hb); replace HB := Aside0.mk (below_step bz hb); (try clear hb); (try clear hb2); (try clear hk); (try clear hi); refine hK.out _ _ ⟨HS0_, HS1_, HS2_, HS3_, HS4_, HS5_, HS6_, HS7_⟩ (fun hHeld => ?_); clear hK K; refine nz 32 ?_; refine pz HT_ 10 34 ?_; refine dz HT_ ?_; (try go_wp2)
             go_roundg k2
             case measure => have := HK1.out; have := HK2.out; omega
             case rel => exact ⟨(wrap64 (x5_2 + 1)), rz, H', ⟨by have := HK1.out; have := HK2.out; omega⟩, ⟨hr HO_3.out⟩, ⟨bz⟩⟩
            ·rw [if_neg c23] at H; have c23b0 : (t211 == 0) = false := beq_eq_false_iff_ne.mpr c23; have c23b1 : (t211 != 0) = true := bne_iff_ne.mpr c23; obtain rfl := Option.some.inj H; (try go_wp2); replace HO_3 := Aside0.mk (Kd.R_drew HO_3.out); replace HB := Aside0.mk (below_drew1 HB.out); have p209 : 0 ≤ (x4_1 : Int) := of_decide_eq_true az; have q209 : x4_1 < (t202.length : Int) := of_decide_eq_true az; obtain ⟨ad209, e209, hx209_0, hx209_1, hx209_2, hx209_3⟩ := at_T85 (Kd.R_reads' HO_3.out).2.2 x4_1 p209 q209
             cases e209
             replace p209 := eq_true p209; replace q209 := eq_true q209; have p210 : 0 ≤ (x5_2 : Int) := of_decide_eq_true az; have q210 : x5_2 < (t202.length : Int) := of_decide_eq_true az; obtain ⟨ad210, e210, hx210_0, hx210_1, hx210_2, hx210_3⟩ := at_T85 (Kd.R_reads' HO_3.out).2.2 x5_2 p210 q210; obtain rfl : ad209 = ad210 := (by injection e210)
             replace p210 := eq_true p210; replace q210 := eq_true q210; refine start_ (n := 11) (S := fun w' => w'.cell? (ad209.add ((x4_1).toNat * 4)) = some (.int .i64 ((rd_T85 t202 x4_1).f0.f0)) ∧ w'.cell? ⟨(ad209.add ((x4_1).toNat * 4)).block, (ad209.add ((x4_1).toNat * 4)).off + 1, none⟩ = some (.int .i64 ((rd_T85 t202 x4_1).f0.f1)) ∧ w'.cell? ⟨(ad209.add ((x4_1).toNat * 4)).block, (ad209.add ((x4_1).toNat * 4)).off + 2, none⟩ = some (.int .i64 ((rd_T85 t202 x4_1).f1.f0)) ∧ w'.cell? ⟨(ad209.add ((x4_1).toNat * 4)).block, (ad209.add ((x4_1).toNat * 4)).off + 3, none⟩ = some (.int .i64 ((rd_T85 t202 x4_1).f1.f1)) ∧ w'.cell? (ad209.add ((x5_2).toNat * 4)) = some (.int .i64 ((rd_T85 t202 x5_2).f0.f0)) ∧ w'.cell? ⟨(ad209.add ((x5_2).toNat * 4)).block, (ad209.add ((x5_2).toNat * 4)).off + 1, none⟩ = some (.int .i64 ((rd_T85 t202 x5_2).f0.f1)) ∧ w'.cell? ⟨(ad209.add ((x5_2).toNat * 4)).block, (ad209.add ((x5_2).toNat * 4)).off + 2, none⟩ = some (.int .i64 ((rd_T85 t202 x5_2).f1.f0)) ∧ w'.cell? ⟨(ad209.add ((x5_2).toNat * 4)).block, (ad209.add ((x5_2).toNat * 4)).off + 3, none⟩ = some (.int .i64 ((rd_T85 t202 x5_2).f1.f1))) (ds := []) #[F,F,F,F,F,F,F,F,F,F,F] (by kernel_rfl) rfl rfl ⟨hx209_0, hx209_1, hx209_2, hx209_3, hx210_0, hx210_1, hx210_2, hx210_3⟩ (fun hHeld => ?_); refine with_tabW spec_IsSimple.tab11 spec_IsSimple.bits11 (fun HT_ HW_ => ?_); generalize wr.drew = w26 at HO_3 HB hx209_0 hx209_1 hx209_2 hx209_3 hx210_0 hx210_1 hx210_2 hx210_3 hHeld ⊢; refine pz HT_ 0 24 ?_; refine pz HT_ 1 25 ?_; refine pz HT_ 2 26 ?_; refine pz HT_ 4 28 ?_; refine pz HT_ 5 29 ?_; refine pz HT_ 6 30 ?_; refine pz HT_ 9 33 ?_; refine tz8 HT_ HW_ hHeld 3 27 ?_; refine tz8 HT_ HW_ hHeld 7 31 ?_
             refine oz HT_ 8 (some 32) (fun K hK => ?_); refine gz Try.func145 #[.agg #[.int .i64 ((rd_T85 t202 x4_1).f0.f0), .int .i64 ((rd_T85 t202 x4_1).f0.f1), .int .i64 ((rd_T85 t202 x4_1).f1.f0), .int .i64 ((rd_T85 t202 x4_1).f1.f1)], .agg #[.int .i64 ((rd_T85 t202 x5_2).f0.f0), .int .i64 ((rd_T85 t202 x5_2).f0.f1), .int .i64 ((rd_T85 t202 x5_2).f1.f0), .int .i64 ((rd_T85 t202 x5_2).f1.f1)]] ?_
             with_reducible refine (spec_HowMeet.calls ((rd_T85 t202 x4_1).f0.f0) ((rd_T85 t202 x4_1).f0.f1) ((rd_T85 t202 x4_1).f1.f0) ((rd_T85 t202 x4_1).f1.f1) ((rd_T85 t202 x5_2).f0.f0) ((rd_T85 t202 x5_2).f0.f1) ((rd_T85 t202 x5_2).f1.f0) ((rd_T85 t202 x5_2).f1.f1) t211 _ A22.out).mono ?_
             rintro e w27 ⟨rfl, hb⟩; have HS0_ := yz hb hHeld.1; have HS1_ := yz hb hHeld.2.1; have HS2_ := yz hb hHeld.2.2.1; have HS3_ := yz hb hHeld.2.2.2.1; have HS4_ := yz hb hHeld.2.2.2.2.1; have HS5_ := yz hb hHeld.2.2.2.2.2.1; have HS6_ := yz hb hHeld.2.2.2.2.2.2.1; have HS7_ := yz hb hHeld.2.2.2.2.2.2.2; refine ⟨_, rfl, ?_⟩; replace HO_3 := Aside0.mk (rbz HO_3 hb); replace HB := Aside0.mk (below_step bz hb); (try clear hb); (try clear hb2); (try clear hk); (try clear hi); refine hK.out _ _ ⟨HS0_, HS1_, HS2_, HS3_, HS4_, HS5_, HS6_, HS7_⟩ (fun hHeld => ?_); clear hK K; refine nz 32 ?_; refine pz HT_ 10 34 ?_; refine dz HT_ ?_; (try go_wp2); go_ret
             exact ⟨ez, bz⟩
           ·rw [if_neg c21] at H
            exact absurd H (by simp)
          ·rw [if_neg c20] at H
           exact absurd H (by simp)
         ·rw [if_neg c19] at H
          exact absurd H (by simp)
        ·rw [if_neg c18] at H
         exact absurd H (by simp)
      ·rw [if_neg c6] at H; have c6b0 := decide_eq_false c6; clear c6; have H' := Aside0.mk H; clear H; go_wp2
       go_roundg k2
       case measure => have := HK1.out; have := HK2.out; omega
       case rel => exact ⟨(wrap64 (x4_1 + 1)), rz, H', ⟨by have := HK1.out; have := HK2.out; omega⟩, ⟨hr HO_3.out⟩, ⟨bz⟩⟩
   ·rw [if_neg c4] at H; have c4b0 := decide_eq_false c4; clear c4; replace H := Option.bind_eq_some_iff.mp H; obtain ⟨t205, A280, H⟩ := H; have A28 := Aside0.mk A280; clear A280; obtain rfl := Option.some.inj H; obtain ⟨Ao29, co29, eo29⟩ := Kd.R_slice HO_3.out; subst eo29; go_wp2_with (first | ((with_reducible refine gt (some 36) rfl ?_); refine gc Try.func106 (spec_IsLine.calls k1 _ _ l0 t205 _ cz0 HC0.out A28.out) ?_; rintro e w30 ⟨rfl, hb⟩; refine ⟨_, rfl, ?_⟩; replace HO_3 := Aside0.mk (rbz HO_3 hb); replace HB := Aside0.mk (below_step bz hb); (try clear hb))); go_ret
    exact ⟨ez, bz⟩

end Go.Proofs.Ytdfehjfmihokpaa.PFnExactAllPieces
