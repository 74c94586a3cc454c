-- Written by a program of this session's: the kit's print, turned (turnprint.py): functions, and that Go comes to just their answers.
import Derived.Test.YtdfehjfmihokpaaZ
import Derived.Test.YtdfehjfmihokpaaPFnExactAllPiecesx0
import Derived.Test.YtdfehjfmihokpaaPFnExactAllPiecesx17
import Derived.Test.YtdfehjfmihokpaaPFnExactAllPiecesx20
import Derived.Test.YtdfehjfmihokpaaPFnExactAllPiecesx21
namespace Go.Proofs.Ytdfehjfmihokpaa.PFnExactAllPieces
open Go.RowKit Go.Proofs.YtdfehjfmihokpaaW.PrintWords Go.Proofs.YtdfehjfmihokpaaW.PrintLast Go.Proofs.YtdfehjfmihokpaaW.PrintMore Go.Proofs.YtdfehjfmihokpaaGeo Go.Proofs.YtdfehjfmihokpaaHand Go.Proofs.YtdfehjfmihokpaaMeet Go.Proofs.YtdfehjfmihokpaaQuiet Go.Proofs.YtdfehjfmihokpaaZ
attribute [local go_sem] max2_int min2_int max_two min_two max_three min_three max_four min_four   -- for this text's walks alone
set_option linter.unusedVariables false
set_option linter.unusedSimpArgs false

/-! ### impl_IsSimple: function 124 -/
mutual
def impl_IsSimple.l0 : Nat → List (S85) → Int → Int → Option (Bool)
 | 0, _, _, _ => none
 | k + 1, x3, x13, x14 => if x14 < x13 then (impl_IsSimple.l1 k x3 x14 x13 x14 x14 0) else (some true)
def impl_IsSimple.l1 : Nat → List (S85) → Int → Int → Int → Int → Int → Option (Bool)
 | 0, _, _, _, _, _, _ => none
 | k + 1, x3, x4, x13, x14, x17, x18 => if x18 < x17 then (if x18 = (wrap64 (x4 - 1)) then (if 0 ≤ x4 then (if x4 < (x3.length : Int) then (if 0 ≤ x18 then (if x18 < (x3.length : Int) then ((impl_HowMeet.f k ((rd_T85 x3 x4).f0.f0) ((rd_T85 x3 x4).f0.f1) ((rd_T85 x3 x4).f1.f0) ((rd_T85 x3 x4).f1.f1) ((rd_T85 x3 x18).f0.f0) ((rd_T85 x3 x18).f0.f1) ((rd_T85 x3 x18).f1.f0) ((rd_T85 x3 x18).f1.f1)).bind fun t332 => (if t332 = 1 then (impl_IsSimple.l1 k x3 x4 x13 x14 x17 (wrap64 (x18 + 1))) else (some false))) else (none)) else (none)) else (none)) else (none)) else (if 0 ≤ x4 then (if x4 < (x3.length : Int) then (if 0 ≤ x18 then (if x18 < (x3.length : Int) then ((impl_HowMeet.f k ((rd_T85 x3 x4).f0.f0) ((rd_T85 x3 x4).f0.f1) ((rd_T85 x3 x4).f1.f0) ((rd_T85 x3 x4).f1.f1) ((rd_T85 x3 x18).f0.f0) ((rd_T85 x3 x18).f0.f1) ((rd_T85 x3 x18).f1.f0) ((rd_T85 x3 x18).f1.f1)).bind fun t335 => (if t335 = 0 then (impl_IsSimple.l1 k x3 x4 x13 x14 x17 (wrap64 (x18 + 1))) else (some false))) else (none)) else (none)) else (none)) else (none))) else (impl_IsSimple.l0 k x3 x13 (wrap64 (x14 + 1)))
end
def impl_IsSimple.f (k : Nat) (l0 : List (S82)) : Option (Bool) := (impl_IsLine.f k l0).bind fun t326 => (if t326 = true then ((impl_SegmentsOf.f k l0).bind fun t327 => (impl_IsSimple.l0 k t327 (t327.length : Int) 0)) else (some false))
theorem impl_IsSimple.mono_l : ∀ k, (∀ y0 y1 y2, LeO (impl_IsSimple.l0 k y0 y1 y2) (impl_IsSimple.l0 (k + 1) y0 y1 y2)) ∧ (∀ y0 y1 y2 y3 y4 y5, LeO (impl_IsSimple.l1 k y0 y1 y2 y3 y4 y5) (impl_IsSimple.l1 (k + 1) y0 y1 y2 y3 y4 y5))
 | 0 => ⟨fun _ _ _ r h => by simp [impl_IsSimple.l0] at h, fun _ _ _ _ _ _ r h => by simp [impl_IsSimple.l1] at h⟩
 | k + 1 => by
  obtain ⟨ih0, ih1⟩ := impl_IsSimple.mono_l k; refine ⟨?_, ?_⟩
  ·intro y0 y1 y2
   unfold impl_IsSimple.l0
   repeat' first | (with_reducible first | exact ih0 _ _ _ | exact ih1 _ _ _ _ _ _ | exact impl_HowMeet.mono _ _ _ _ _ _ _ _ _ | exact impl_IsLine.mono _ _ | exact impl_SegmentsOf.mono _ _ | exact LeO.refl _ | exact LeO.none _ | refine LeO.ite ?_ ?_ | refine LeO.bind ?_ (fun _ => ?_)) | exact ih0 _ _ _ | exact ih1 _ _ _ _ _ _ | exact impl_HowMeet.mono _ _ _ _ _ _ _ _ _ | exact impl_IsLine.mono _ _ | exact impl_SegmentsOf.mono _ _ | exact LeO.none _ | refine LeO.ite ?_ ?_ | refine LeO.bind ?_ (fun _ => ?_)
  ·intro y0 y1 y2 y3 y4 y5
   unfold impl_IsSimple.l1
   repeat' first | (with_reducible first | exact ih0 _ _ _ | exact ih1 _ _ _ _ _ _ | exact impl_HowMeet.mono _ _ _ _ _ _ _ _ _ | exact impl_IsLine.mono _ _ | exact impl_SegmentsOf.mono _ _ | exact LeO.refl _ | exact LeO.none _ | refine LeO.ite ?_ ?_ | refine LeO.bind ?_ (fun _ => ?_)) | exact ih0 _ _ _ | exact ih1 _ _ _ _ _ _ | exact impl_HowMeet.mono _ _ _ _ _ _ _ _ _ | exact impl_IsLine.mono _ _ | exact impl_SegmentsOf.mono _ _ | exact LeO.none _ | refine LeO.ite ?_ ?_ | refine LeO.bind ?_ (fun _ => ?_)
theorem impl_IsSimple.mono : ∀ a0 k, LeO (impl_IsSimple.f k a0) (impl_IsSimple.f (k + 1) a0) := by
 intro a0 k; obtain ⟨ih0, ih1⟩ := impl_IsSimple.mono_l k
 unfold impl_IsSimple.f
 repeat' first | (with_reducible first | exact ih0 _ _ _ | exact ih1 _ _ _ _ _ _ | exact impl_HowMeet.mono _ _ _ _ _ _ _ _ _ | exact impl_IsLine.mono _ _ | exact impl_SegmentsOf.mono _ _ | exact LeO.refl _ | exact LeO.none _ | refine LeO.ite ?_ ?_ | refine LeO.bind ?_ (fun _ => ?_)) | exact ih0 _ _ _ | exact ih1 _ _ _ _ _ _ | exact impl_HowMeet.mono _ _ _ _ _ _ _ _ _ | exact impl_IsLine.mono _ _ | exact impl_SegmentsOf.mono _ _ | exact LeO.none _ | refine LeO.ite ?_ ?_ | refine LeO.bind ?_ (fun _ => ?_)
def impl_IsSimple.T13 : Bool × List (List Nat × List Nat) := (true, [([], []), ([], []), ([0, 1], [0, 1]), ([2], [2]), ([], []), ([], []), ([4, 5], [4, 5]), ([6], [6]), ([3, 7], [3, 7]), ([], []), ([8, 9], [8, 9])])
def impl_IsSimple.B13 : List Nat := [0, 0, 3, 7, 0, 0, 48, 112, 255, 0, 1023]
theorem impl_IsSimple.tab13 : rtab .any (opsOf Try.f124 13) = impl_IsSimple.T13 := by kernel_rfl
theorem impl_IsSimple.bits13 : waitsOk impl_IsSimple.T13.2 impl_IsSimple.B13 = true := by kernel_rfl
set_option maxHeartbeats 8000000 in
set_option maxRecDepth 100000 in
theorem impl_IsSimple.calls (k : Nat) (A0 : Option Addr) (c0 : Nat) (l0 : List (S82)) (r : Bool) (w : World) (hr0 : Kd.C k82 w A0 l0.length l0) (hc0 : l0.length ≤ c0) (h : impl_IsSimple.f k l0 = some r) :
  Calls Try.prog 124 #[.slice A0 l0.length c0] w fun e w' => e = .returned (.bool r) ∧ Below w.heap.size w w' := by
 have hu85 := Try.underlying85; have HR0 := Aside0.mk hr0; have HC0 := Aside0.mk hc0; clear hr0 hc0; have HB := Aside0.mk (Below.refl w.heap.size w); have H : ((impl_IsLine.f k l0).bind fun t326 => (if t326 = true then ((impl_SegmentsOf.f k l0).bind fun t327 => (impl_IsSimple.l0 k t327 (t327.length : Int) 0)) else (some false))) = some r := h; clear h; replace H := Option.bind_eq_some_iff.mp H; obtain ⟨t326, A20, H⟩ := H; have A2 := Aside0.mk A20; clear A20
 by_cases c3 : t326 = true
 ·subst c3; replace H := ift H; replace H := Option.bind_eq_some_iff.mp H; obtain ⟨t327, A40, H⟩ := H; have A4 := Aside0.mk A40; clear A40; have H' := Aside0.mk H; clear H
  go_enter Try.func124, Try.ntmps124; go_wp2_with (first | ((with_reducible refine gt (some 8) rfl ?_); refine gc Try.func111 (impl_IsLine.calls k _ _ l0 true _ (cz HR0.out) HC0.out A2.out) ?_; rintro e w5 ⟨rfl, hb⟩; refine ⟨_, rfl, ?_⟩; replace HB := Aside0.mk (below_step bz hb); (try clear hb)) | ((with_reducible refine gt (some 11) rfl ?_); refine gc Try.func126 (impl_SegmentsOf.calls k _ _ l0 t327 _ cz0 HC0.out A4.out) ?_; rintro e w6 ⟨v328, rfl, ho0, hb⟩; refine ⟨_, rfl, ?_⟩; have HO329 := Aside0.mk (Kd.R_lower ho0 (below_size bz)); replace HB := Aside0.mk (below_step bz hb); (try clear hb); (try clear ho0); obtain ⟨Ao7, co7, eo7⟩ := Kd.R_slice HO329.out; subst eo7))
  go_loopg [14] k (fun kq v14 w' => ∃ (x14_1 : Int), v14 = .int .i64 x14_1 ∧ Aside0 (impl_IsSimple.l0 kq t327 (t327.length : Int) x14_1 = some r) ∧ Aside0 (kq ≤ k) ∧ Aside0 (Kd.R k85 85 w' w.heap.size (fun _ => True) (.slice Ao7 t327.length co7) t327) ∧ Aside0 (Below w.heap.size w w'))
  case atStart => exact ⟨(0), rz, H', ⟨Nat.le_refl _⟩, ⟨hr HO329.out⟩, ⟨bz⟩⟩
  case round =>
   clear H'; (try clear c1); (try clear p2); (try clear c3); obtain ⟨x14_1, rfl, HA, HK1, HO_3, HB⟩ := hrel
   cases gk with
   | zero => exact absurd HA.out (by simp [impl_IsSimple.l0])
   | succ k1 =>
    have H := HA.out; clear HA; simp only [impl_IsSimple.l0] at H
    by_cases c8 : x14_1 < (t327.length : Int)
    ·rw [if_pos c8] at H; have c8b0 := decide_eq_true c8; clear c8; have H' := Aside0.mk H; clear H; go_wp2
     go_loopg [18] k1 (fun kq v18 w' => ∃ (x18_2 : Int), v18 = .int .i64 x18_2 ∧ Aside0 (impl_IsSimple.l1 kq t327 x14_1 (t327.length : Int) x14_1 x14_1 x18_2 = some r) ∧ Aside0 (kq ≤ k1) ∧ Aside0 (Kd.R k85 85 w' w.heap.size (fun _ => True) (.slice Ao7 t327.length co7) t327) ∧ Aside0 (Below w.heap.size w w'))
     case atStart => exact ⟨(0), rz, H', ⟨Nat.le_refl _⟩, ⟨hr HO_3.out⟩, ⟨bz⟩⟩
     case round =>
      clear H'; (try clear c1); (try clear p2); (try clear c3); (try clear c8); (try clear c8b0); (try clear p2); obtain ⟨x18_2, rfl, HA, HK2, HO_3, HB⟩ := hrel
      cases gk with
      | zero => exact absurd HA.out (by simp [impl_IsSimple.l1])
      | succ k2 =>
       have H := HA.out; clear HA; simp only [impl_IsSimple.l1] at H
       by_cases c9 : x18_2 < x14_1
       ·rw [if_pos c9] at H; have c9b0 := decide_eq_true c9; clear c9
        by_cases c10 : x18_2 = (wrap64 (x14_1 - 1))
        ·rw [if_pos c10] at H; have c10b0 : (x18_2 == (wrap64 (x14_1 - 1))) = true := beq_iff_eq.mpr c10; have c10b1 : (x18_2 != (wrap64 (x14_1 - 1))) = false := bne_eq_false_iff_eq.mpr c10; clear c10
         by_cases c11 : 0 ≤ x14_1
         ·rw [if_pos c11] at H; have c11b0 := decide_eq_true c11; clear c11
          by_cases c12 : x14_1 < (t327.length : Int)
          ·rw [if_pos c12] at H; have c12b0 := decide_eq_true c12; clear c12
           by_cases c13 : 0 ≤ x18_2
           ·rw [if_pos c13] at H; have c13b0 := decide_eq_true c13; clear c13
            by_cases c14 : x18_2 < (t327.length : Int)
            ·rw [if_pos c14] at H; have c14b0 := decide_eq_true c14; clear c14; replace H := Option.bind_eq_some_iff.mp H; obtain ⟨t332, A150, H⟩ := H; have A15 := Aside0.mk A150; clear A150
             by_cases c16 : t332 = 1
             ·rw [if_pos c16] at H; have c16b0 : (t332 == 1) = true := beq_iff_eq.mpr c16; have c16b1 : (t332 != 1) = false := bne_eq_false_iff_eq.mpr c16; clear c16; have H' := Aside0.mk H; clear H; (try go_wp2); replace HO_3 := Aside0.mk (Kd.R_drew HO_3.out); replace HB := Aside0.mk (below_drew1 HB.out); have p330 : 0 ≤ (x14_1 : Int) := of_decide_eq_true az; have q330 : x14_1 < (t327.length : Int) := of_decide_eq_true az; obtain ⟨ad330, e330, hx330_0, hx330_1, hx330_2, hx330_3⟩ := at_T85 (Kd.R_reads' HO_3.out).2.2 x14_1 p330 q330
              cases e330
              replace p330 := eq_true p330; replace q330 := eq_true q330; have p331 : 0 ≤ (x18_2 : Int) := of_decide_eq_true az; have q331 : x18_2 < (t327.length : Int) := of_decide_eq_true az; obtain ⟨ad331, e331, hx331_0, hx331_1, hx331_2, hx331_3⟩ := at_T85 (Kd.R_reads' HO_3.out).2.2 x18_2 p331 q331; obtain rfl : ad330 = ad331 := (by injection e331)
              replace p331 := eq_true p331; replace q331 := eq_true q331; refine start_ (n := 11) (S := fun w' => w'.cell? (ad330.add ((x14_1).toNat * 4)) = some (.int .i64 ((rd_T85 t327 x14_1).f0.f0)) ∧ w'.cell? ⟨(ad330.add ((x14_1).toNat * 4)).block, (ad330.add ((x14_1).toNat * 4)).off + 1, none⟩ = some (.int .i64 ((rd_T85 t327 x14_1).f0.f1)) ∧ w'.cell? ⟨(ad330.add ((x14_1).toNat * 4)).block, (ad330.add ((x14_1).toNat * 4)).off + 2, none⟩ = some (.int .i64 ((rd_T85 t327 x14_1).f1.f0)) ∧ w'.cell? ⟨(ad330.add ((x14_1).toNat * 4)).block, (ad330.add ((x14_1).toNat * 4)).off + 3, none⟩ = some (.int .i64 ((rd_T85 t327 x14_1).f1.f1)) ∧ w'.cell? (ad330.add ((x18_2).toNat * 4)) = some (.int .i64 ((rd_T85 t327 x18_2).f0.f0)) ∧ w'.cell? ⟨(ad330.add ((x18_2).toNat * 4)).block, (ad330.add ((x18_2).toNat * 4)).off + 1, none⟩ = some (.int .i64 ((rd_T85 t327 x18_2).f0.f1)) ∧ w'.cell? ⟨(ad330.add ((x18_2).toNat * 4)).block, (ad330.add ((x18_2).toNat * 4)).off + 2, none⟩ = some (.int .i64 ((rd_T85 t327 x18_2).f1.f0)) ∧ w'.cell? ⟨(ad330.add ((x18_2).toNat * 4)).block, (ad330.add ((x18_2).toNat * 4)).off + 3, none⟩ = some (.int .i64 ((rd_T85 t327 x18_2).f1.f1))) (ds := []) #[F,F,F,F,F,F,F,F,F,F,F] (by kernel_rfl) rfl rfl ⟨hx330_0, hx330_1, hx330_2, hx330_3, hx331_0, hx331_1, hx331_2, hx331_3⟩ (fun hHeld => ?_); refine with_tabW impl_IsSimple.tab13 impl_IsSimple.bits13 (fun HT_ HW_ => ?_); generalize wr.drew = w17 at HO_3 HB hx330_0 hx330_1 hx330_2 hx330_3 hx331_0 hx331_1 hx331_2 hx331_3 hHeld ⊢
              refine pz HT_ 0 25 ?_; refine pz HT_ 1 26 ?_; refine pz HT_ 2 27 ?_; refine pz HT_ 4 29 ?_; refine pz HT_ 5 30 ?_; refine pz HT_ 6 31 ?_; refine pz HT_ 9 34 ?_; refine tz8 HT_ HW_ hHeld 3 28 ?_; refine tz8 HT_ HW_ hHeld 7 32 ?_; refine oz HT_ 8 (some 33) (fun K hK => ?_); refine gz Try.func152 #[.agg #[.int .i64 ((rd_T85 t327 x14_1).f0.f0), .int .i64 ((rd_T85 t327 x14_1).f0.f1), .int .i64 ((rd_T85 t327 x14_1).f1.f0), .int .i64 ((rd_T85 t327 x14_1).f1.f1)], .agg #[.int .i64 ((rd_T85 t327 x18_2).f0.f0), .int .i64 ((rd_T85 t327 x18_2).f0.f1), .int .i64 ((rd_T85 t327 x18_2).f1.f0), .int .i64 ((rd_T85 t327 x18_2).f1.f1)]] ?_
              with_reducible refine (impl_HowMeet.calls k2 ((rd_T85 t327 x14_1).f0.f0) ((rd_T85 t327 x14_1).f0.f1) ((rd_T85 t327 x14_1).f1.f0) ((rd_T85 t327 x14_1).f1.f1) ((rd_T85 t327 x18_2).f0.f0) ((rd_T85 t327 x18_2).f0.f1) ((rd_T85 t327 x18_2).f1.f0) ((rd_T85 t327 x18_2).f1.f1) t332 _ A15.out).mono ?_
              rintro e w18 ⟨rfl, hb⟩; have HS0_ := yz hb hHeld.1; have HS1_ := yz hb hHeld.2.1; have HS2_ := yz hb hHeld.2.2.1; have HS3_ := yz hb hHeld.2.2.2.1; have HS4_ := yz hb hHeld.2.2.2.2.1; have HS5_ := yz hb hHeld.2.2.2.2.2.1; have HS6_ := yz hb hHeld.2.2.2.2.2.2.1; have HS7_ := yz hb hHeld.2.2.2.2.2.2.2; refine ⟨_, rfl, ?_⟩; replace HO_3 := Aside0.mk (rbz HO_3 hb); replace HB := Aside0.mk (below_step bz hb); (try clear hb); (try clear hb2); (try clear hk); (try clear hi); refine hK.out _ _ ⟨HS0_, HS1_, HS2_, HS3_, HS4_, HS5_, HS6_, HS7_⟩ (fun hHeld => ?_); clear hK K; refine nz 33 ?_; refine pz HT_ 10 35 ?_; refine dz HT_ ?_; (try go_wp2)
              go_roundg k2
              case measure => have := HK1.out; have := HK2.out; omega
              case rel => exact ⟨(wrap64 (x18_2 + 1)), rz, H', ⟨by have := HK1.out; have := HK2.out; omega⟩, ⟨hr HO_3.out⟩, ⟨bz⟩⟩
             ·rw [if_neg c16] at H; have c16b0 : (t332 == 1) = false := beq_eq_false_iff_ne.mpr c16; have c16b1 : (t332 != 1) = true := bne_iff_ne.mpr c16; obtain rfl := Option.some.inj H; (try go_wp2); replace HO_3 := Aside0.mk (Kd.R_drew HO_3.out); replace HB := Aside0.mk (below_drew1 HB.out); have p330 : 0 ≤ (x14_1 : Int) := of_decide_eq_true az; have q330 : x14_1 < (t327.length : Int) := of_decide_eq_true az; obtain ⟨ad330, e330, hx330_0, hx330_1, hx330_2, hx330_3⟩ := at_T85 (Kd.R_reads' HO_3.out).2.2 x14_1 p330 q330
              cases e330
              replace p330 := eq_true p330; replace q330 := eq_true q330; have p331 : 0 ≤ (x18_2 : Int) := of_decide_eq_true az; have q331 : x18_2 < (t327.length : Int) := of_decide_eq_true az; obtain ⟨ad331, e331, hx331_0, hx331_1, hx331_2, hx331_3⟩ := at_T85 (Kd.R_reads' HO_3.out).2.2 x18_2 p331 q331; obtain rfl : ad330 = ad331 := (by injection e331)
              replace p331 := eq_true p331; replace q331 := eq_true q331; refine start_ (n := 11) (S := fun w' => w'.cell? (ad330.add ((x14_1).toNat * 4)) = some (.int .i64 ((rd_T85 t327 x14_1).f0.f0)) ∧ w'.cell? ⟨(ad330.add ((x14_1).toNat * 4)).block, (ad330.add ((x14_1).toNat * 4)).off + 1, none⟩ = some (.int .i64 ((rd_T85 t327 x14_1).f0.f1)) ∧ w'.cell? ⟨(ad330.add ((x14_1).toNat * 4)).block, (ad330.add ((x14_1).toNat * 4)).off + 2, none⟩ = some (.int .i64 ((rd_T85 t327 x14_1).f1.f0)) ∧ w'.cell? ⟨(ad330.add ((x14_1).toNat * 4)).block, (ad330.add ((x14_1).toNat * 4)).off + 3, none⟩ = some (.int .i64 ((rd_T85 t327 x14_1).f1.f1)) ∧ w'.cell? (ad330.add ((x18_2).toNat * 4)) = some (.int .i64 ((rd_T85 t327 x18_2).f0.f0)) ∧ w'.cell? ⟨(ad330.add ((x18_2).toNat * 4)).block, (ad330.add ((x18_2).toNat * 4)).off + 1, none⟩ = some (.int .i64 ((rd_T85 t327 x18_2).f0.f1)) ∧ w'.cell? ⟨(ad330.add ((x18_2).toNat * 4)).block, (ad330.add ((x18_2).toNat * 4)).off + 2, none⟩ = some (.int .i64 ((rd_T85 t327 x18_2).f1.f0)) ∧ w'.cell? ⟨(ad330.add ((x18_2).toNat * 4)).block, (ad330.add ((x18_2).toNat * 4)).off + 3, none⟩ = some (.int .i64 ((rd_T85 t327 x18_2).f1.f1))) (ds := []) #[F,F,F,F,F,F,F,F,F,F,F] (by kernel_rfl) rfl rfl ⟨hx330_0, hx330_1, hx330_2, hx330_3, hx331_0, hx331_1, hx331_2, hx331_3⟩ (fun hHeld => ?_); refine with_tabW impl_IsSimple.tab13 impl_IsSimple.bits13 (fun HT_ HW_ => ?_); generalize wr.drew = w19 at HO_3 HB hx330_0 hx330_1 hx330_2 hx330_3 hx331_0 hx331_1 hx331_2 hx331_3 hHeld ⊢
              refine pz HT_ 0 25 ?_; refine pz HT_ 1 26 ?_; refine pz HT_ 2 27 ?_; refine pz HT_ 4 29 ?_; refine pz HT_ 5 30 ?_; refine pz HT_ 6 31 ?_; refine pz HT_ 9 34 ?_; refine tz8 HT_ HW_ hHeld 3 28 ?_; refine tz8 HT_ HW_ hHeld 7 32 ?_; refine oz HT_ 8 (some 33) (fun K hK => ?_); refine gz Try.func152 #[.agg #[.int .i64 ((rd_T85 t327 x14_1).f0.f0), .int .i64 ((rd_T85 t327 x14_1).f0.f1), .int .i64 ((rd_T85 t327 x14_1).f1.f0), .int .i64 ((rd_T85 t327 x14_1).f1.f1)], .agg #[.int .i64 ((rd_T85 t327 x18_2).f0.f0), .int .i64 ((rd_T85 t327 x18_2).f0.f1), .int .i64 ((rd_T85 t327 x18_2).f1.f0), .int .i64 ((rd_T85 t327 x18_2).f1.f1)]] ?_
              with_reducible refine (impl_HowMeet.calls k2 ((rd_T85 t327 x14_1).f0.f0) ((rd_T85 t327 x14_1).f0.f1) ((rd_T85 t327 x14_1).f1.f0) ((rd_T85 t327 x14_1).f1.f1) ((rd_T85 t327 x18_2).f0.f0) ((rd_T85 t327 x18_2).f0.f1) ((rd_T85 t327 x18_2).f1.f0) ((rd_T85 t327 x18_2).f1.f1) t332 _ A15.out).mono ?_
              rintro e w20 ⟨rfl, hb⟩; have HS0_ := yz hb hHeld.1; have HS1_ := yz hb hHeld.2.1; have HS2_ := yz hb hHeld.2.2.1; have HS3_ := yz hb hHeld.2.2.2.1; have HS4_ := yz hb hHeld.2.2.2.2.1; have HS5_ := yz hb hHeld.2.2.2.2.2.1; have HS6_ := yz hb hHeld.2.2.2.2.2.2.1; have HS7_ := yz hb hHeld.2.2.2.2.2.2.2; refine ⟨_, rfl, ?_⟩; replace HO_3 := Aside0.mk (rbz HO_3 hb); replace HB := Aside0.mk (below_step bz hb); (try clear hb); (try clear hb2); (try clear hk); (try clear hi); refine hK.out _ _ ⟨HS0_, HS1_, HS2_, HS3_, HS4_, HS5_, HS6_, HS7_⟩ (fun hHeld => ?_); clear hK K; refine nz 33 ?_; refine pz HT_ 10 35 ?_; refine dz HT_ ?_; (try go_wp2); go_ret
              exact ⟨ez, bz⟩
            ·rw [if_neg c14] at H
             exact absurd H (by simp)
           ·rw [if_neg c13] at H
            exact absurd H (by simp)
          ·rw [if_neg c12] at H
           exact absurd H (by simp)
         ·rw [if_neg c11] at H
          exact absurd H (by simp)
        ·rw [if_neg c10] at H; have c10b0 : (x18_2 == (wrap64 (x14_1 - 1))) = false := beq_eq_false_iff_ne.mpr c10; have c10b1 : (x18_2 != (wrap64 (x14_1 - 1))) = true := bne_iff_ne.mpr c10
         by_cases c21 : 0 ≤ x14_1
         ·rw [if_pos c21] at H; have c21b0 := decide_eq_true c21; clear c21
          by_cases c22 : x14_1 < (t327.length : Int)
          ·rw [if_pos c22] at H; have c22b0 := decide_eq_true c22; clear c22
           by_cases c23 : 0 ≤ x18_2
           ·rw [if_pos c23] at H; have c23b0 := decide_eq_true c23; clear c23
            by_cases c24 : x18_2 < (t327.length : Int)
            ·rw [if_pos c24] at H; have c24b0 := decide_eq_true c24; clear c24; replace H := Option.bind_eq_some_iff.mp H; obtain ⟨t335, A250, H⟩ := H; have A25 := Aside0.mk A250; clear A250
             by_cases c26 : t335 = 0
             ·rw [if_pos c26] at H; have c26b0 : (t335 == 0) = true := beq_iff_eq.mpr c26; have c26b1 : (t335 != 0) = false := bne_eq_false_iff_eq.mpr c26; clear c26; have H' := Aside0.mk H; clear H; (try go_wp2); replace HO_3 := Aside0.mk (Kd.R_drew HO_3.out); replace HB := Aside0.mk (below_drew1 HB.out); have p333 : 0 ≤ (x14_1 : Int) := of_decide_eq_true az; have q333 : x14_1 < (t327.length : Int) := of_decide_eq_true az; obtain ⟨ad333, e333, hx333_0, hx333_1, hx333_2, hx333_3⟩ := at_T85 (Kd.R_reads' HO_3.out).2.2 x14_1 p333 q333
              cases e333
              replace p333 := eq_true p333; replace q333 := eq_true q333; have p334 : 0 ≤ (x18_2 : Int) := of_decide_eq_true az; have q334 : x18_2 < (t327.length : Int) := of_decide_eq_true az; obtain ⟨ad334, e334, hx334_0, hx334_1, hx334_2, hx334_3⟩ := at_T85 (Kd.R_reads' HO_3.out).2.2 x18_2 p334 q334; obtain rfl : ad333 = ad334 := (by injection e334)
              replace p334 := eq_true p334; replace q334 := eq_true q334; refine start_ (n := 11) (S := fun w' => w'.cell? (ad333.add ((x14_1).toNat * 4)) = some (.int .i64 ((rd_T85 t327 x14_1).f0.f0)) ∧ w'.cell? ⟨(ad333.add ((x14_1).toNat * 4)).block, (ad333.add ((x14_1).toNat * 4)).off + 1, none⟩ = some (.int .i64 ((rd_T85 t327 x14_1).f0.f1)) ∧ w'.cell? ⟨(ad333.add ((x14_1).toNat * 4)).block, (ad333.add ((x14_1).toNat * 4)).off + 2, none⟩ = some (.int .i64 ((rd_T85 t327 x14_1).f1.f0)) ∧ w'.cell? ⟨(ad333.add ((x14_1).toNat * 4)).block, (ad333.add ((x14_1).toNat * 4)).off + 3, none⟩ = some (.int .i64 ((rd_T85 t327 x14_1).f1.f1)) ∧ w'.cell? (ad333.add ((x18_2).toNat * 4)) = some (.int .i64 ((rd_T85 t327 x18_2).f0.f0)) ∧ w'.cell? ⟨(ad333.add ((x18_2).toNat * 4)).block, (ad333.add ((x18_2).toNat * 4)).off + 1, none⟩ = some (.int .i64 ((rd_T85 t327 x18_2).f0.f1)) ∧ w'.cell? ⟨(ad333.add ((x18_2).toNat * 4)).block, (ad333.add ((x18_2).toNat * 4)).off + 2, none⟩ = some (.int .i64 ((rd_T85 t327 x18_2).f1.f0)) ∧ w'.cell? ⟨(ad333.add ((x18_2).toNat * 4)).block, (ad333.add ((x18_2).toNat * 4)).off + 3, none⟩ = some (.int .i64 ((rd_T85 t327 x18_2).f1.f1))) (ds := []) #[F,F,F,F,F,F,F,F,F,F,F] (by kernel_rfl) rfl rfl ⟨hx333_0, hx333_1, hx333_2, hx333_3, hx334_0, hx334_1, hx334_2, hx334_3⟩ (fun hHeld => ?_); refine with_tabW impl_IsSimple.tab13 impl_IsSimple.bits13 (fun HT_ HW_ => ?_); generalize wr.drew = w27 at HO_3 HB hx333_0 hx333_1 hx333_2 hx333_3 hx334_0 hx334_1 hx334_2 hx334_3 hHeld ⊢
              refine pz HT_ 0 25 ?_; refine pz HT_ 1 26 ?_; refine pz HT_ 2 27 ?_; refine pz HT_ 4 29 ?_; refine pz HT_ 5 30 ?_; refine pz HT_ 6 31 ?_; refine pz HT_ 9 34 ?_; refine tz8 HT_ HW_ hHeld 3 28 ?_; refine tz8 HT_ HW_ hHeld 7 32 ?_; refine oz HT_ 8 (some 33) (fun K hK => ?_); refine gz Try.func152 #[.agg #[.int .i64 ((rd_T85 t327 x14_1).f0.f0), .int .i64 ((rd_T85 t327 x14_1).f0.f1), .int .i64 ((rd_T85 t327 x14_1).f1.f0), .int .i64 ((rd_T85 t327 x14_1).f1.f1)], .agg #[.int .i64 ((rd_T85 t327 x18_2).f0.f0), .int .i64 ((rd_T85 t327 x18_2).f0.f1), .int .i64 ((rd_T85 t327 x18_2).f1.f0), .int .i64 ((rd_T85 t327 x18_2).f1.f1)]] ?_
              with_reducible refine (impl_HowMeet.calls k2 ((rd_T85 t327 x14_1).f0.f0) ((rd_T85 t327 x14_1).f0.f1) ((rd_T85 t327 x14_1).f1.f0) ((rd_T85 t327 x14_1).f1.f1) ((rd_T85 t327 x18_2).f0.f0) ((rd_T85 t327 x18_2).f0.f1) ((rd_T85 t327 x18_2).f1.f0) ((rd_T85 t327 x18_2).f1.f1) t335 _ A25.out).mono ?_
              rintro e w28 ⟨rfl, hb⟩; have HS0_ := yz hb hHeld.1; have HS1_ := yz hb hHeld.2.1; have HS2_ := yz hb hHeld.2.2.1; have HS3_ := yz hb hHeld.2.2.2.1; have HS4_ := yz hb hHeld.2.2.2.2.1; have HS5_ := yz hb hHeld.2.2.2.2.2.1; have HS6_ := yz hb hHeld.2.2.2.2.2.2.1; have HS7_ := yz hb hHeld.2.2.2.2.2.2.2; refine ⟨_, rfl, ?_⟩; replace HO_3 := Aside0.mk (rbz HO_3 hb); replace HB := Aside0.mk (below_step bz hb); (try clear hb); (try clear hb2); (try clear hk); (try clear hi); refine hK.out _ _ ⟨HS0_, HS1_, HS2_, HS3_, HS4_, HS5_, HS6_, HS7_⟩ (fun hHeld => ?_); clear hK K; refine nz 33 ?_; refine pz HT_ 10 35 ?_; refine dz HT_ ?_; (try go_wp2)
              go_roundg k2
              case measure => have := HK1.out; have := HK2.out; omega
              case rel => exact ⟨(wrap64 (x18_2 + 1)), rz, H', ⟨by have := HK1.out; have := HK2.out; omega⟩, ⟨hr HO_3.out⟩, ⟨bz⟩⟩
             ·rw [if_neg c26] at H; have c26b0 : (t335 == 0) = false := beq_eq_false_iff_ne.mpr c26; have c26b1 : (t335 != 0) = true := bne_iff_ne.mpr c26; obtain rfl := Option.some.inj H; (try go_wp2); replace HO_3 := Aside0.mk (Kd.R_drew HO_3.out); replace HB := Aside0.mk (below_drew1 HB.out); have p333 : 0 ≤ (x14_1 : Int) := of_decide_eq_true az; have q333 : x14_1 < (t327.length : Int) := of_decide_eq_true az; obtain ⟨ad333, e333, hx333_0, hx333_1, hx333_2, hx333_3⟩ := at_T85 (Kd.R_reads' HO_3.out).2.2 x14_1 p333 q333
              cases e333
              replace p333 := eq_true p333; replace q333 := eq_true q333; have p334 : 0 ≤ (x18_2 : Int) := of_decide_eq_true az; have q334 : x18_2 < (t327.length : Int) := of_decide_eq_true az; obtain ⟨ad334, e334, hx334_0, hx334_1, hx334_2, hx334_3⟩ := at_T85 (Kd.R_reads' HO_3.out).2.2 x18_2 p334 q334; obtain rfl : ad333 = ad334 := (by injection e334)
              replace p334 := eq_true p334; replace q334 := eq_true q334; refine start_ (n := 11) (S := fun w' => w'.cell? (ad333.add ((x14_1).toNat * 4)) = some (.int .i64 ((rd_T85 t327 x14_1).f0.f0)) ∧ w'.cell? ⟨(ad333.add ((x14_1).toNat * 4)).block, (ad333.add ((x14_1).toNat * 4)).off + 1, none⟩ = some (.int .i64 ((rd_T85 t327 x14_1).f0.f1)) ∧ w'.cell? ⟨(ad333.add ((x14_1).toNat * 4)).block, (ad333.add ((x14_1).toNat * 4)).off + 2, none⟩ = some (.int .i64 ((rd_T85 t327 x14_1).f1.f0)) ∧ w'.cell? ⟨(ad333.add ((x14_1).toNat * 4)).block, (ad333.add ((x14_1).toNat * 4)).off + 3, none⟩ = some (.int .i64 ((rd_T85 t327 x14_1).f1.f1)) ∧ w'.cell? (ad333.add ((x18_2).toNat * 4)) = some (.int .i64 ((rd_T85 t327 x18_2).f0.f0)) ∧ w'.cell? ⟨(ad333.add ((x18_2).toNat * 4)).block, (ad333.add ((x18_2).toNat * 4)).off + 1, none⟩ = some (.int .i64 ((rd_T85 t327 x18_2).f0.f1)) ∧ w'.cell? ⟨(ad333.add ((x18_2).toNat * 4)).block, (ad333.add ((x18_2).toNat * 4)).off + 2, none⟩ = some (.int .i64 ((rd_T85 t327 x18_2).f1.f0)) ∧ w'.cell? ⟨(ad333.add ((x18_2).toNat * 4)).block, (ad333.add ((x18_2).toNat * 4)).off + 3, none⟩ = some (.int .i64 ((rd_T85 t327 x18_2).f1.f1))) (ds := []) #[F,F,F,F,F,F,F,F,F,F,F] (by kernel_rfl) rfl rfl ⟨hx333_0, hx333_1, hx333_2, hx333_3, hx334_0, hx334_1, hx334_2, hx334_3⟩ (fun hHeld => ?_); refine with_tabW impl_IsSimple.tab13 impl_IsSimple.bits13 (fun HT_ HW_ => ?_); generalize wr.drew = w29 at HO_3 HB hx333_0 hx333_1 hx333_2 hx333_3 hx334_0 hx334_1 hx334_2 hx334_3 hHeld ⊢
              refine pz HT_ 0 25 ?_; refine pz HT_ 1 26 ?_; refine pz HT_ 2 27 ?_; refine pz HT_ 4 29 ?_; refine pz HT_ 5 30 ?_; refine pz HT_ 6 31 ?_; refine pz HT_ 9 34 ?_; refine tz8 HT_ HW_ hHeld 3 28 ?_; refine tz8 HT_ HW_ hHeld 7 32 ?_; refine oz HT_ 8 (some 33) (fun K hK => ?_); refine gz Try.func152 #[.agg #[.int .i64 ((rd_T85 t327 x14_1).f0.f0), .int .i64 ((rd_T85 t327 x14_1).f0.f1), .int .i64 ((rd_T85 t327 x14_1).f1.f0), .int .i64 ((rd_T85 t327 x14_1).f1.f1)], .agg #[.int .i64 ((rd_T85 t327 x18_2).f0.f0), .int .i64 ((rd_T85 t327 x18_2).f0.f1), .int .i64 ((rd_T85 t327 x18_2).f1.f0), .int .i64 ((rd_T85 t327 x18_2).f1.f1)]] ?_
              with_reducible refine (impl_HowMeet.calls k2 ((rd_T85 t327 x14_1).f0.f0) ((rd_T85 t327 x14_1).f0.f1) ((rd_T85 t327 x14_1).f1.f0) ((rd_T85 t327 x14_1).f1.f1) ((rd_T85 t327 x18_2).f0.f0) ((rd_T85 t327 x18_2).f0.f1) ((rd_T85 t327 x18_2).f1.f0) ((rd_T85 t327 x18_2).f1.f1) t335 _ A25.out).mono ?_
              rintro e w30 ⟨rfl, hb⟩; have HS0_ := yz hb hHeld.1; have HS1_ := yz hb hHeld.2.1; have HS2_ := yz hb hHeld.2.2.1; have HS3_ := yz hb hHeld.2.2.2.1; have HS4_ := yz hb hHeld.2.2.2.2.1; have HS5_ := yz hb hHeld.2.2.2.2.2.1; have HS6_ := yz hb hHeld.2.2.2.2.2.2.1; have HS7_ := yz hb hHeld.2.2.2.2.2.2.2; refine ⟨_, rfl, ?_⟩; replace HO_3 := Aside0.mk (rbz HO_3 hb); replace HB := Aside0.mk (below_step bz hb); (try clear hb); (try clear hb2); (try clear hk); (try clear hi); refine hK.out _ _ ⟨HS0_, HS1_, HS2_, HS3_, HS4_, HS5_, HS6_, HS7_⟩ (fun hHeld => ?_); clear hK K; refine nz 33 ?_; refine pz HT_ 10 35 ?_; refine dz HT_ ?_; (try go_wp2); go_ret
              exact ⟨ez, bz⟩
            ·rw [if_neg c24] at H
             exact absurd H (by simp)
           ·rw [if_neg c23] at H
            exact absurd H (by simp)
          ·rw [if_neg c22] at H
           exact absurd H (by simp)
         ·rw [if_neg c21] at H
          exact absurd H (by simp)
       ·rw [if_neg c9] at H; have c9b0 := decide_eq_false c9; clear c9; have H' := Aside0.mk H; clear H; go_wp2
        go_roundg k2
        case measure => have := HK1.out; have := HK2.out; omega
        case rel => exact ⟨(wrap64 (x14_1 + 1)), rz, H', ⟨by have := HK1.out; have := HK2.out; omega⟩, ⟨hr HO_3.out⟩, ⟨bz⟩⟩
    ·rw [if_neg c8] at H; have c8b0 := decide_eq_false c8; clear c8; obtain rfl := Option.some.inj H; go_wp2; go_ret
     exact ⟨ez, bz⟩
 ·replace c3 := Bool.eq_false_iff.mpr c3; subst c3; replace H := iff_ H; obtain rfl := Option.some.inj H
  go_enter Try.func124, Try.ntmps124; go_wp2_with (first | ((with_reducible refine gt (some 8) rfl ?_); refine gc Try.func111 (impl_IsLine.calls k _ _ l0 false _ (cz HR0.out) HC0.out A2.out) ?_; rintro e w31 ⟨rfl, hb⟩; refine ⟨_, rfl, ?_⟩; replace HB := Aside0.mk (below_step bz hb); (try clear hb))); go_ret
  exact ⟨ez, bz⟩

end Go.Proofs.Ytdfehjfmihokpaa.PFnExactAllPieces
