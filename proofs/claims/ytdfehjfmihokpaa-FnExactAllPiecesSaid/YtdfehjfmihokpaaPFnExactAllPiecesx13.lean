-- Written by a program of this session's: the kit's print, turned (turnprint.py): functions, and that Go comes to just their answers.
import Derived.Test.YtdfehjfmihokpaaZ
import Derived.Test.YtdfehjfmihokpaaPFnExactAllPiecesx0
import Derived.Test.YtdfehjfmihokpaaPFnExactAllPiecesx5
import Derived.Test.YtdfehjfmihokpaaPFnExactAllPiecesx7
import Derived.Test.YtdfehjfmihokpaaPFnExactAllPiecesx8
import Derived.Test.YtdfehjfmihokpaaPFnExactAllPiecesx9
import Derived.Test.YtdfehjfmihokpaaPFnExactAllPiecesx11
import Derived.Test.YtdfehjfmihokpaaPFnExactAllPiecesx12
namespace Go.Proofs.Ytdfehjfmihokpaa.PFnExactAllPieces
open Go.RowKit Go.Proofs.YtdfehjfmihokpaaW.PrintWords Go.Proofs.YtdfehjfmihokpaaW.PrintLast Go.Proofs.YtdfehjfmihokpaaW.PrintMore Go.Proofs.YtdfehjfmihokpaaGeo Go.Proofs.YtdfehjfmihokpaaHand Go.Proofs.YtdfehjfmihokpaaMeet Go.Proofs.YtdfehjfmihokpaaQuiet Go.Proofs.YtdfehjfmihokpaaZ
attribute [local go_sem] max2_int min2_int max_two min_two max_three min_three max_four min_four   -- for this text's walks alone
set_option linter.unusedVariables false
set_option linter.unusedSimpArgs false

/-! ### spec_IsFeature: function 68 -/
def spec_IsFeature.j0 : Nat → Bool → Int → Int → Int → ByteArray → List (S82) → Option (Bool)
 | 0, _, _, _, _, _, _ => none
 | k + 1, x23, x213000, x213001, x213002, x213003, x213004 => if x23 = true then (some false) else (if x213001 = 1 then (if (x213004.length : Int) = 1 then (if 0 < (x213004.length : Int) then ((spec_IsPoint.f ((rd_T82 x213004 0).f0) ((rd_T82 x213004 0).f1)).bind fun t217 => (some t217)) else (none)) else (some false)) else (if x213001 = 2 then ((spec_IsSimple.f k x213004).bind fun t218 => (some t218)) else (if x213001 = 3 then ((spec_IsRing.f k x213004).bind fun t219 => (some t219)) else (some false))))
def spec_IsFeature.f (k : Nat) (a0_0 : Int) (a0_1 : Int) (a0_2 : Int) (a0_3 : ByteArray) (l0_4 : List (S82)) : Option (Bool) := (spec_l1In.f a0_0 1 99).bind fun t213 => (if t213 = true then ((spec_l1In.f a0_2 0 9).bind fun t214 => (if t214 = true then (if a0_3.toList = ([] : List UInt8) then (spec_IsFeature.j0 k false a0_0 a0_1 a0_2 a0_3 l0_4) else ((spec_IsName.f k a0_3).bind fun t215 => (spec_IsFeature.j0 k (!t215) a0_0 a0_1 a0_2 a0_3 l0_4))) else (spec_IsFeature.j0 k true a0_0 a0_1 a0_2 a0_3 l0_4))) else (spec_IsFeature.j0 k true a0_0 a0_1 a0_2 a0_3 l0_4))
theorem spec_IsFeature.mono_l : ∀ k, (∀ y0 y1 y2 y3 y4 y5, LeO (spec_IsFeature.j0 k y0 y1 y2 y3 y4 y5) (spec_IsFeature.j0 (k + 1) y0 y1 y2 y3 y4 y5))
 | 0 => fun _ _ _ _ _ _ r h => by simp [spec_IsFeature.j0] at h
 | k + 1 => by
  have ih0 := spec_IsFeature.mono_l k
  ·intro y0 y1 y2 y3 y4 y5
   unfold spec_IsFeature.j0
   repeat' first | (with_reducible first | exact ih0 _ _ _ _ _ _ | exact spec_IsName.mono _ _ | exact spec_IsRing.mono _ _ | exact spec_IsSimple.mono _ _ | exact LeO.refl _ | exact LeO.none _ | refine LeO.ite ?_ ?_ | refine LeO.bind ?_ (fun _ => ?_)) | exact ih0 _ _ _ _ _ _ | exact spec_IsName.mono _ _ | exact spec_IsRing.mono _ _ | exact spec_IsSimple.mono _ _ | exact LeO.none _ | refine LeO.ite ?_ ?_ | refine LeO.bind ?_ (fun _ => ?_)
theorem spec_IsFeature.mono : ∀ a0 a1 a2 a3 a4 k, LeO (spec_IsFeature.f k a0 a1 a2 a3 a4) (spec_IsFeature.f (k + 1) a0 a1 a2 a3 a4) := by
 intro a0 a1 a2 a3 a4 k; have ih0 := spec_IsFeature.mono_l k
 unfold spec_IsFeature.f
 repeat' first | (with_reducible first | exact ih0 _ _ _ _ _ _ | exact spec_IsName.mono _ _ | exact spec_IsRing.mono _ _ | exact spec_IsSimple.mono _ _ | exact LeO.refl _ | exact LeO.none _ | refine LeO.ite ?_ ?_ | refine LeO.bind ?_ (fun _ => ?_)) | exact ih0 _ _ _ _ _ _ | exact spec_IsName.mono _ _ | exact spec_IsRing.mono _ _ | exact spec_IsSimple.mono _ _ | exact LeO.none _ | refine LeO.ite ?_ ?_ | refine LeO.bind ?_ (fun _ => ?_)
set_option maxHeartbeats 8000000 in
set_option maxRecDepth 100000 in
theorem spec_IsFeature.calls (k : Nat) (a0_0 : Int) (a0_1 : Int) (a0_2 : Int) (a0_3 : ByteArray) (A0_4 : Option Addr) (c0_4 : Nat) (l0_4 : List (S82)) (r : Bool) (w : World) (hr0_4 : Kd.C k82 w A0_4 l0_4.length l0_4) (hc0_4 : l0_4.length ≤ c0_4) (h : spec_IsFeature.f k a0_0 a0_1 a0_2 a0_3 l0_4 = some r) :
  Calls Try.prog 68 #[.agg #[.int .i64 a0_0, .int .i64 a0_1, .int .i64 a0_2, .string a0_3, .slice A0_4 l0_4.length c0_4]] w fun e w' => e = .returned (.bool r) ∧ Below w.heap.size w w' := by
 have hu29 := Try.underlying29; have hu82 := Try.underlying82; have HR0_4 := Aside0.mk hr0_4; have HC0_4 := Aside0.mk hc0_4; clear hr0_4 hc0_4; have HB := Aside0.mk (Below.refl w.heap.size w); have H : ((spec_l1In.f a0_0 1 99).bind fun t213 => (if t213 = true then ((spec_l1In.f a0_2 0 9).bind fun t214 => (if t214 = true then (if a0_3.toList = ([] : List UInt8) then (spec_IsFeature.j0 k false a0_0 a0_1 a0_2 a0_3 l0_4) else ((spec_IsName.f k a0_3).bind fun t215 => (spec_IsFeature.j0 k (!t215) a0_0 a0_1 a0_2 a0_3 l0_4))) else (spec_IsFeature.j0 k true a0_0 a0_1 a0_2 a0_3 l0_4))) else (spec_IsFeature.j0 k true a0_0 a0_1 a0_2 a0_3 l0_4))) = some r := h; clear h; have HC2 := Aside0.mk H; clear H
 go_enter Try.func68, Try.ntmps68
 go_upto_region 1 with (first | ((with_reducible refine gt (some 1) rfl ?_); refine bx #[.int .i64 a0_0, .int .i64 a0_1, .int .i64 a0_2, .string a0_3, .slice A0_4 l0_4.length c0_4] 29 ?_; intro gb212 hg w3 hbox hb; have BK212 := Aside0.mk (hbox); have GW212 := Aside0.mk (gez HB hg); have GE212 := Aside0.mk (gez HB hg); replace HB := Aside0.mk (below_step bz hb); clear hb hbox hg))
 (try simp only [Act.put, List.setIfInBounds_toArray, List.set_cons_zero, List.set_cons_succ])
 go_cut [23] (fun v23 wc => ∃ (kq : Nat) (x23_1 : Bool), v23 = .bool x23_1 ∧ Aside0 (spec_IsFeature.j0 kq x23_1 a0_0 a0_1 a0_2 a0_3 l0_4 = some r) ∧ Aside0 (kq ≤ k) ∧ Aside0 (wc.heap[gb212]? = some (.cells #[.int .i64 a0_0, .int .i64 a0_1, .int .i64 a0_2, .string a0_3, (.slice A0_4 l0_4.length c0_4)] 29 (0, 0))) ∧ Aside0 (Below w.heap.size w wc))
 case first =>
  have H := HC2.out; clear HC2; replace H := Option.bind_eq_some_iff.mp H; obtain ⟨t213, A40, H⟩ := H; have A4 := Aside0.mk A40; clear A40
  by_cases c5 : t213 = true
  ·subst c5; replace H := ift H; replace H := Option.bind_eq_some_iff.mp H; obtain ⟨t214, A60, H⟩ := H; have A6 := Aside0.mk A60; clear A60
   by_cases c7 : t214 = true
   ·subst c7; replace H := ift H
    by_cases c8 : a0_3.toList = ([] : List UInt8)
    ·rw [if_pos c8] at H; have c8b0 : (a0_3.toList == ([] : List UInt8)) = true := beq_iff_eq.mpr c8; have c8b1 : (a0_3.toList != ([] : List UInt8)) = false := bne_eq_false_iff_eq.mpr c8; clear c8
     (first | rw [c8b0] | (simp only [i64_w, i32_w]; rw [c8b0]) | skip)
     have H' := Aside0.mk H; clear H; obtain ⟨hcz9_0, hcz9_1, hcz9_2, hcz9_3, hcz9_4, hfz9_0, hfz9_1, hfz9_2, hfz9_3, hfz9_4⟩ := cells5 BK212; go_wp2_with (first | ((with_reducible refine gt (some 5) rfl ?_); refine gc Try.func71 (spec_l1In.calls a0_0 1 99 true _ A4.out) ?_; rintro e w' ⟨rfl, ⟨nd, rfl⟩⟩; refine ⟨_, rfl, ?_⟩) | (go_at_call 71; (with_reducible refine (spec_l1In.calls a0_2 0 9 true _ A6.out).mono ?_); rintro e w' ⟨rfl, ⟨nd, rfl⟩⟩))
     go_meet
     case rel => exact ⟨_, (false), rz, H', ⟨qz⟩, ⟨kz BK212⟩, ⟨bzs⟩⟩
    ·rw [if_neg c8] at H; have c8b0 : (a0_3.toList == ([] : List UInt8)) = false := beq_eq_false_iff_ne.mpr c8; have c8b1 : (a0_3.toList != ([] : List UInt8)) = true := bne_iff_ne.mpr c8
     (first | rw [c8b0] | (simp only [i64_w, i32_w]; rw [c8b0]) | skip)
     replace H := Option.bind_eq_some_iff.mp H; obtain ⟨t215, A100, H⟩ := H; have A10 := Aside0.mk A100; clear A100; have H' := Aside0.mk H; clear H; obtain ⟨hcz11_0, hcz11_1, hcz11_2, hcz11_3, hcz11_4, hfz11_0, hfz11_1, hfz11_2, hfz11_3, hfz11_4⟩ := cells5 BK212; go_wp2_with (first | ((with_reducible refine gt (some 5) rfl ?_); refine gc Try.func71 (spec_l1In.calls a0_0 1 99 true _ A4.out) ?_; rintro e w' ⟨rfl, ⟨nd, rfl⟩⟩; refine ⟨_, rfl, ?_⟩) | (go_at_call 71; (with_reducible refine (spec_l1In.calls a0_2 0 9 true _ A6.out).mono ?_); rintro e w' ⟨rfl, ⟨nd, rfl⟩⟩) | (go_at_call 116; (with_reducible refine (spec_IsName.calls k a0_3 t215 _ A10.out).mono ?_); rintro e w' ⟨rfl, ⟨nd, rfl⟩⟩))
     go_meet
     case rel => exact ⟨_, (!t215), rz, H', ⟨qz⟩, ⟨kz BK212⟩, ⟨bzs⟩⟩
   ·replace c7 := Bool.eq_false_iff.mpr c7; subst c7; replace H := iff_ H; have H' := Aside0.mk H; clear H; obtain ⟨hcz12_0, hcz12_1, hcz12_2, hcz12_3, hcz12_4, hfz12_0, hfz12_1, hfz12_2, hfz12_3, hfz12_4⟩ := cells5 BK212; go_wp2_with (first | ((with_reducible refine gt (some 5) rfl ?_); refine gc Try.func71 (spec_l1In.calls a0_0 1 99 true _ A4.out) ?_; rintro e w' ⟨rfl, ⟨nd, rfl⟩⟩; refine ⟨_, rfl, ?_⟩) | (go_at_call 71; (with_reducible refine (spec_l1In.calls a0_2 0 9 false _ A6.out).mono ?_); rintro e w' ⟨rfl, ⟨nd, rfl⟩⟩))
    go_meet
    case rel => exact ⟨_, (true), rz, H', ⟨qz⟩, ⟨kz BK212⟩, ⟨bzs⟩⟩
  ·replace c5 := Bool.eq_false_iff.mpr c5; subst c5; replace H := iff_ H; have H' := Aside0.mk H; clear H; obtain ⟨hcz13_0, hcz13_1, hcz13_2, hcz13_3, hcz13_4, hfz13_0, hfz13_1, hfz13_2, hfz13_3, hfz13_4⟩ := cells5 BK212; go_wp2_with (first | ((with_reducible refine gt (some 5) rfl ?_); refine gc Try.func71 (spec_l1In.calls a0_0 1 99 false _ A4.out) ?_; rintro e w' ⟨rfl, ⟨nd, rfl⟩⟩; refine ⟨_, rfl, ?_⟩))
   go_meet
   case rel => exact ⟨_, (true), rz, H', ⟨qz⟩, ⟨kz BK212⟩, ⟨bzs⟩⟩
 case rest =>
  clear HC2; (try clear p2); (try clear c5); (try clear c6); (try clear c7); (try clear c8); (try clear c8b0); (try clear c8b1); (try clear hcz11_0); (try clear hcz11_1); (try clear hcz11_2); (try clear hcz11_3); (try clear hcz11_4); (try clear hcz12_0); (try clear hcz12_1); (try clear hcz12_2); (try clear hcz12_3); (try clear hcz12_4); (try clear hcz13_0); (try clear hcz13_1); (try clear hcz13_2); (try clear hcz13_3); (try clear hcz13_4); (try clear hcz9_0); (try clear hcz9_1); (try clear hcz9_2); (try clear hcz9_3); (try clear hcz9_4); (try clear hfz11_0); (try clear hfz11_1); (try clear hfz11_2); (try clear hfz11_3); (try clear hfz11_4); (try clear hfz12_0); (try clear hfz12_1); (try clear hfz12_2); (try clear hfz12_3); (try clear hfz12_4); (try clear hfz13_0); (try clear hfz13_1); (try clear hfz13_2); (try clear hfz13_3); (try clear hfz13_4); (try clear hfz9_0); (try clear hfz9_1); (try clear hfz9_2); (try clear hfz9_3); (try clear hfz9_4); obtain ⟨kq, x23_1, rfl, HA, HJ1, BK212, HB⟩ := hcut
  cases kq with
  | zero => exact absurd HA.out (by simp [spec_IsFeature.j0])
  | succ kj1 =>
   have H := HA.out; clear HA; simp only [spec_IsFeature.j0] at H
   by_cases c14 : x23_1 = true
   ·subst c14; replace H := ift H; obtain rfl := Option.some.inj H; go_wp2; go_ret
    exact ⟨ez, bzs⟩
   ·replace c14 := Bool.eq_false_iff.mpr c14; subst c14; replace H := iff_ H
    by_cases c15 : a0_1 = 1
    ·rw [if_pos c15] at H; have c15b0 : (a0_1 == 1) = true := beq_iff_eq.mpr c15; have c15b1 : (a0_1 != 1) = false := bne_eq_false_iff_eq.mpr c15; clear c15
     by_cases c16 : (l0_4.length : Int) = 1
     ·rw [if_pos c16] at H; have c16b0 : ((l0_4.length : Int) == 1) = true := beq_iff_eq.mpr c16; have c16b1 : ((l0_4.length : Int) != 1) = false := bne_eq_false_iff_eq.mpr c16; clear c16
      by_cases c17 : 0 < (l0_4.length : Int)
      ·rw [if_pos c17] at H; have c17b0 := decide_eq_true c17; have c17b1 : decide (0 < l0_4.length) = true := decide_eq_true (by omega); clear c17; replace H := Option.bind_eq_some_iff.mp H; obtain ⟨t217, A180, H⟩ := H; have A18 := Aside0.mk A180; clear A180; obtain rfl := Option.some.inj H; obtain ⟨hcz19_0, hcz19_1, hcz19_2, hcz19_3, hcz19_4, hfz19_0, hfz19_1, hfz19_2, hfz19_3, hfz19_4⟩ := cells5 BK212; have p216 : 0 ≤ (0 : Int) := (by omega)
       have q216 : 0 < (l0_4.length : Int) := of_decide_eq_true az; obtain ⟨ad216, e216, hx216_0, hx216_1⟩ := at_T82 HR0_4.out 0 p216 q216
       cases e216
       have qi216 : (0 < l0_4.length) = True := eq_true (by omega); (try rw [show ((0 : Int)).toNat = 0 from rfl] at hx216_0); (try rw [show 0 * 2 = 0 from rfl] at hx216_0); (try rw [Addr.add_zero'] at hx216_0); (try rw [show ((0 : Int)).toNat = 0 from rfl] at hx216_1); (try rw [show 0 * 2 = 0 from rfl] at hx216_1); (try rw [Addr.add_zero'] at hx216_1); replace hx216_0 := xz HB hx216_0; replace hx216_1 := xz HB hx216_1; replace p216 := eq_true p216; replace q216 := eq_true q216; go_wp2_with (first | (go_at_call 117; (with_reducible refine (spec_IsPoint.calls ((rd_T82 l0_4 0).f0) ((rd_T82 l0_4 0).f1) t217 _ A18.out).mono ?_); rintro e w20 ⟨rfl, hb⟩; replace BK212 := Aside0.mk (bbz BK212 hb); replace HB := Aside0.mk (below_step bzs hb); (try clear hb))); go_ret
       exact ⟨ez, bzs⟩
      ·rw [if_neg c17] at H
       exact absurd H (by simp)
     ·rw [if_neg c16] at H; have c16b0 : ((l0_4.length : Int) == 1) = false := beq_eq_false_iff_ne.mpr c16; have c16b1 : ((l0_4.length : Int) != 1) = true := bne_iff_ne.mpr c16; obtain rfl := Option.some.inj H; obtain ⟨hcz21_0, hcz21_1, hcz21_2, hcz21_3, hcz21_4, hfz21_0, hfz21_1, hfz21_2, hfz21_3, hfz21_4⟩ := cells5 BK212; go_wp2; go_ret
      exact ⟨ez, bzs⟩
    ·rw [if_neg c15] at H; have c15b0 : (a0_1 == 1) = false := beq_eq_false_iff_ne.mpr c15; have c15b1 : (a0_1 != 1) = true := bne_iff_ne.mpr c15
     by_cases c22 : a0_1 = 2
     ·rw [if_pos c22] at H; have c22b0 : (a0_1 == 2) = true := beq_iff_eq.mpr c22; have c22b1 : (a0_1 != 2) = false := bne_eq_false_iff_eq.mpr c22; clear c22; replace H := Option.bind_eq_some_iff.mp H; obtain ⟨t218, A230, H⟩ := H; have A23 := Aside0.mk A230; clear A230; obtain rfl := Option.some.inj H; obtain ⟨hcz24_0, hcz24_1, hcz24_2, hcz24_3, hcz24_4, hfz24_0, hfz24_1, hfz24_2, hfz24_3, hfz24_4⟩ := cells5 BK212; go_wp2_with (first | ((with_reducible refine gt (some 43) rfl ?_); refine gc Try.func118 (spec_IsSimple.calls kj1 A0_4 c0_4 l0_4 t218 _ (cz (Kd.C_below HR0_4.out HB.out)) HC0_4.out A23.out) ?_; rintro e w25 ⟨rfl, hb⟩; refine ⟨_, rfl, ?_⟩; replace BK212 := Aside0.mk (bbz BK212 hb); replace HB := Aside0.mk (below_step bzs hb); (try clear hb))); go_ret
      exact ⟨ez, bzs⟩
     ·rw [if_neg c22] at H; have c22b0 : (a0_1 == 2) = false := beq_eq_false_iff_ne.mpr c22; have c22b1 : (a0_1 != 2) = true := bne_iff_ne.mpr c22
      by_cases c26 : a0_1 = 3
      ·rw [if_pos c26] at H; have c26b0 : (a0_1 == 3) = true := beq_iff_eq.mpr c26; have c26b1 : (a0_1 != 3) = false := bne_eq_false_iff_eq.mpr c26; clear c26; replace H := Option.bind_eq_some_iff.mp H; obtain ⟨t219, A270, H⟩ := H; have A27 := Aside0.mk A270; clear A270; obtain rfl := Option.some.inj H; obtain ⟨hcz28_0, hcz28_1, hcz28_2, hcz28_3, hcz28_4, hfz28_0, hfz28_1, hfz28_2, hfz28_3, hfz28_4⟩ := cells5 BK212; go_wp2_with (first | ((with_reducible refine gt (some 48) rfl ?_); refine gc Try.func109 (spec_IsRing.calls kj1 A0_4 c0_4 l0_4 t219 _ (cz (Kd.C_below HR0_4.out HB.out)) HC0_4.out A27.out) ?_; rintro e w29 ⟨rfl, hb⟩; refine ⟨_, rfl, ?_⟩; replace BK212 := Aside0.mk (bbz BK212 hb); replace HB := Aside0.mk (below_step bzs hb); (try clear hb))); go_ret
       exact ⟨ez, bzs⟩
      ·rw [if_neg c26] at H; have c26b0 : (a0_1 == 3) = false := beq_eq_false_iff_ne.mpr c26; have c26b1 : (a0_1 != 3) = true := bne_iff_ne.mpr c26; obtain rfl := Option.some.inj H; obtain ⟨hcz30_0, hcz30_1, hcz30_2, hcz30_3, hcz30_4, hfz30_0, hfz30_1, hfz30_2, hfz30_3, hfz30_4⟩ := cells5 BK212; go_wp2; go_ret
       exact ⟨ez, bzs⟩

/-! ### spec_RingSegments: function 120 -/
def spec_RingSegments.f (k : Nat) (l0 : List (S82)) : Option ((List (S85))) := (spec_IsRing.f k l0).bind fun t220 => (if t220 = true then ((spec_l7Segments.f k l0).bind fun t221 => (some t221)) else (some (([] : List (S85)))))
theorem spec_RingSegments.mono : ∀ a0 k, LeO (spec_RingSegments.f k a0) (spec_RingSegments.f (k + 1) a0) := by
 intro a0 k
 unfold spec_RingSegments.f
 repeat' first | (with_reducible first | exact spec_IsRing.mono _ _ | exact spec_l7Segments.mono _ _ | exact LeO.refl _ | exact LeO.none _ | refine LeO.ite ?_ ?_ | refine LeO.bind ?_ (fun _ => ?_)) | exact spec_IsRing.mono _ _ | exact spec_l7Segments.mono _ _ | exact LeO.none _ | refine LeO.ite ?_ ?_ | refine LeO.bind ?_ (fun _ => ?_)
set_option maxHeartbeats 8000000 in
set_option maxRecDepth 100000 in
theorem spec_RingSegments.calls (k : Nat) (A0 : Option Addr) (c0 : Nat) (l0 : List (S82)) (r : List (S85)) (w : World) (hr0 : Kd.C k82 w A0 l0.length l0) (hc0 : l0.length ≤ c0) (h : spec_RingSegments.f k l0 = some r) :
  Calls Try.prog 120 #[.slice A0 l0.length c0] w fun e w' => ∃ v0_ : Value, e = .returned (v0_) ∧ Kd.R k85 85 w' w.heap.size (fun _ => True) v0_ r ∧ Below w.heap.size w w' := by
 have HR0 := Aside0.mk hr0; have HC0 := Aside0.mk hc0; clear hr0 hc0; have HB := Aside0.mk (Below.refl w.heap.size w); have H : ((spec_IsRing.f k l0).bind fun t220 => (if t220 = true then ((spec_l7Segments.f k l0).bind fun t221 => (some t221)) else (some (([] : List (S85)))))) = some r := h; clear h; replace H := Option.bind_eq_some_iff.mp H; obtain ⟨t220, A20, H⟩ := H; have A2 := Aside0.mk A20; clear A20
 by_cases c3 : t220 = true
 ·subst c3; replace H := ift H; replace H := Option.bind_eq_some_iff.mp H; obtain ⟨t221, A40, H⟩ := H; have A4 := Aside0.mk A40; clear A40; obtain rfl := Option.some.inj H
  go_enter Try.func120, Try.ntmps120; go_wp2_with (first | ((with_reducible refine gt (some 4) rfl ?_); refine gc Try.func109 (spec_IsRing.calls k _ _ l0 true _ (cz HR0.out) HC0.out A2.out) ?_; rintro e w5 ⟨rfl, hb⟩; refine ⟨_, rfl, ?_⟩; replace HB := Aside0.mk (below_step bz hb); (try clear hb)) | ((with_reducible refine gt (some 8) rfl ?_); refine gc Try.func147 (spec_l7Segments.calls k _ _ l0 t221 _ cz0 HC0.out A4.out) ?_; rintro e w6 ⟨v222, rfl, ho0, hb⟩; refine ⟨_, rfl, ?_⟩; have HO223 := Aside0.mk (Kd.R_lower ho0 (below_size bz)); replace HB := Aside0.mk (below_step bz hb); (try clear hb); (try clear ho0))); go_ret
  exact ⟨_, ez, hr HO223.out, bz⟩
 ·replace c3 := Bool.eq_false_iff.mpr c3; subst c3; replace H := iff_ H; obtain ⟨y224, hy224⟩ : ∃ y_ : List (S85), y_ = (([] : List (S85))) := ⟨_, rfl⟩
  replace H : (some y224) = some r := by first | (rw [hy224]; with_reducible exact H) | (have H2_ := (Option.bind_some _ _).symm.trans H; rw [hy224]; with_reducible exact H2_) | (have H2_ := (Option.bind_some _ _).symm.trans H; with_reducible exact H2_) | with_reducible exact H | (rw [hy224]; exact H) | exact H
  have Ny224 := Aside0.mk hy224; clear hy224; obtain rfl := Option.some.inj H
  go_enter Try.func120, Try.ntmps120; go_wp2_with (first | ((with_reducible refine gt (some 4) rfl ?_); refine gc Try.func109 (spec_IsRing.calls k _ _ l0 false _ (cz HR0.out) HC0.out A2.out) ?_; rintro e w7 ⟨rfl, hb⟩; refine ⟨_, rfl, ?_⟩; replace HB := Aside0.mk (below_step bz hb); (try clear hb)) | ((with_reducible refine gate_dst (N := 6) rfl ?_); refine Kd.R_lit k85 _ 85 ?hg (N := 6) ?hd (xs := ([] : List (S85))) (inner := []) (ok := fun _ => True) (okp := fun _ => True) ?hr ?hp (fun _ hk => hk) trivial (Below.refl _ _) (Nat.le_refl _) (by simp) ?_; (case hd => rfl); (case hg => rfl); (case hr => first | (go_simp; done) | (go_simp; rfl)); (case hp => exact (Reps.none _ _)); intro v225 w8 ho9 hb hg_ hnew_; clear hg_ hnew_; (first | rw [← Ny224.out] at ho9 | (simp only [Int.reduceToNat] at ho9; rw [← Ny224.out] at ho9)); have HO226 := Aside0.mk (Kd.R_lower ho9 (below_size bz)); replace HB := Aside0.mk (below_step bz hb); clear hb ho9)); go_ret
  exact ⟨_, ez, hr HO226.out, bz⟩

/-! ### spec_PartsOf: function 69 -/
def spec_PartsOf.f (k : Nat) (a0_0 : Int) (a0_1 : Int) (a0_2 : Int) (a0_3 : ByteArray) (l0_4 : List (S82)) : Option ((List (S85))) := (spec_IsFeature.f k a0_0 a0_1 a0_2 a0_3 l0_4).bind fun t228 => (if t228 = true then (if a0_1 = 2 then ((spec_SegmentsOf.f k l0_4).bind fun t232 => (some t232)) else (if a0_1 = 3 then ((spec_RingSegments.f k l0_4).bind fun t235 => (some t235)) else (some (([] : List (S85)))))) else (some (([] : List (S85)))))
theorem spec_PartsOf.mono : ∀ a0 a1 a2 a3 a4 k, LeO (spec_PartsOf.f k a0 a1 a2 a3 a4) (spec_PartsOf.f (k + 1) a0 a1 a2 a3 a4) := by
 intro a0 a1 a2 a3 a4 k
 unfold spec_PartsOf.f
 repeat' first | (with_reducible first | exact spec_IsFeature.mono _ _ _ _ _ _ | exact spec_RingSegments.mono _ _ | exact spec_SegmentsOf.mono _ _ | exact LeO.refl _ | exact LeO.none _ | refine LeO.ite ?_ ?_ | refine LeO.bind ?_ (fun _ => ?_)) | exact spec_IsFeature.mono _ _ _ _ _ _ | exact spec_RingSegments.mono _ _ | exact spec_SegmentsOf.mono _ _ | exact LeO.none _ | refine LeO.ite ?_ ?_ | refine LeO.bind ?_ (fun _ => ?_)
set_option maxHeartbeats 8000000 in
set_option maxRecDepth 100000 in
theorem spec_PartsOf.calls (k : Nat) (a0_0 : Int) (a0_1 : Int) (a0_2 : Int) (a0_3 : ByteArray) (A0_4 : Option Addr) (c0_4 : Nat) (l0_4 : List (S82)) (r : List (S85)) (w : World) (hr0_4 : Kd.C k82 w A0_4 l0_4.length l0_4) (hc0_4 : l0_4.length ≤ c0_4) (h : spec_PartsOf.f k a0_0 a0_1 a0_2 a0_3 l0_4 = some r) :
  Calls Try.prog 69 #[.agg #[.int .i64 a0_0, .int .i64 a0_1, .int .i64 a0_2, .string a0_3, .slice A0_4 l0_4.length c0_4]] w fun e w' => ∃ v0_ : Value, e = .returned (v0_) ∧ Kd.R k85 85 w' w.heap.size (fun _ => True) v0_ r ∧ Below w.heap.size w w' := by
 have hu29 := Try.underlying29; have HR0_4 := Aside0.mk hr0_4; have HC0_4 := Aside0.mk hc0_4; clear hr0_4 hc0_4; have HB := Aside0.mk (Below.refl w.heap.size w); have H : ((spec_IsFeature.f k a0_0 a0_1 a0_2 a0_3 l0_4).bind fun t228 => (if t228 = true then (if a0_1 = 2 then ((spec_SegmentsOf.f k l0_4).bind fun t232 => (some t232)) else (if a0_1 = 3 then ((spec_RingSegments.f k l0_4).bind fun t235 => (some t235)) else (some (([] : List (S85)))))) else (some (([] : List (S85)))))) = some r := h; clear h; replace H := Option.bind_eq_some_iff.mp H; obtain ⟨t228, A20, H⟩ := H; have A2 := Aside0.mk A20; clear A20
 by_cases c3 : t228 = true
 ·subst c3; replace H := ift H
  by_cases c4 : a0_1 = 2
  ·rw [if_pos c4] at H; have c4b0 : (a0_1 == 2) = true := beq_iff_eq.mpr c4; have c4b1 : (a0_1 != 2) = false := bne_eq_false_iff_eq.mpr c4; clear c4; replace H := Option.bind_eq_some_iff.mp H; obtain ⟨t232, A50, H⟩ := H; have A5 := Aside0.mk A50; clear A50; obtain rfl := Option.some.inj H
   go_enter Try.func69, Try.ntmps69; go_wp2_with (first | ((with_reducible refine gt (some 1) rfl ?_); refine bx #[.int .i64 a0_0, .int .i64 a0_1, .int .i64 a0_2, .string a0_3, .slice A0_4 l0_4.length c0_4] 29 ?_; intro gb227 hg w6 hbox hb; have BK227 := Aside0.mk (hbox); have GW227 := Aside0.mk (gez HB hg); have GE227 := Aside0.mk (gez HB hg); replace HB := Aside0.mk (below_step bz hb); clear hb hbox hg; obtain ⟨hcz7_0, hcz7_1, hcz7_2, hcz7_3, hcz7_4, hfz7_0, hfz7_1, hfz7_2, hfz7_3, hfz7_4⟩ := cells5 BK227) | ((with_reducible refine gt (some 4) rfl ?_); refine gc Try.func68 (spec_IsFeature.calls k a0_0 a0_1 a0_2 a0_3 A0_4 c0_4 l0_4 true _ (cz (Kd.C_below HR0_4.out HB.out)) HC0_4.out A2.out) ?_; rintro e w8 ⟨rfl, hb⟩; refine ⟨_, rfl, ?_⟩; replace BK227 := Aside0.mk (bbz BK227 hb); replace HB := Aside0.mk (below_step bzs hb); (try clear hb); obtain ⟨hcz9_0, hcz9_1, hcz9_2, hcz9_3, hcz9_4, hfz9_0, hfz9_1, hfz9_2, hfz9_3, hfz9_4⟩ := cells5 BK227) | ((with_reducible refine gt (some 13) rfl ?_); refine gc Try.func119 (spec_SegmentsOf.calls k A0_4 c0_4 l0_4 t232 _ (cz (Kd.C_below HR0_4.out HB.out)) HC0_4.out A5.out) ?_; rintro e w10 ⟨v233, rfl, ho0, hb⟩; refine ⟨_, rfl, ?_⟩; have HO234 := Aside0.mk (Kd.R_lower ho0 (below_size bzs)); replace BK227 := Aside0.mk (bbz BK227 hb); replace HB := Aside0.mk (below_step bzs hb); (try clear hb); (try clear ho0))); go_ret
   exact ⟨_, ez, hr HO234.out, bzs⟩
  ·rw [if_neg c4] at H; have c4b0 : (a0_1 == 2) = false := beq_eq_false_iff_ne.mpr c4; have c4b1 : (a0_1 != 2) = true := bne_iff_ne.mpr c4
   by_cases c11 : a0_1 = 3
   ·rw [if_pos c11] at H; have c11b0 : (a0_1 == 3) = true := beq_iff_eq.mpr c11; have c11b1 : (a0_1 != 3) = false := bne_eq_false_iff_eq.mpr c11; clear c11; replace H := Option.bind_eq_some_iff.mp H; obtain ⟨t235, A120, H⟩ := H; have A12 := Aside0.mk A120; clear A120; obtain rfl := Option.some.inj H
    go_enter Try.func69, Try.ntmps69; go_wp2_with (first | ((with_reducible refine gt (some 1) rfl ?_); refine bx #[.int .i64 a0_0, .int .i64 a0_1, .int .i64 a0_2, .string a0_3, .slice A0_4 l0_4.length c0_4] 29 ?_; intro gb227 hg w13 hbox hb; have BK227 := Aside0.mk (hbox); have GW227 := Aside0.mk (gez HB hg); have GE227 := Aside0.mk (gez HB hg); replace HB := Aside0.mk (below_step bz hb); clear hb hbox hg; obtain ⟨hcz14_0, hcz14_1, hcz14_2, hcz14_3, hcz14_4, hfz14_0, hfz14_1, hfz14_2, hfz14_3, hfz14_4⟩ := cells5 BK227) | ((with_reducible refine gt (some 4) rfl ?_); refine gc Try.func68 (spec_IsFeature.calls k a0_0 a0_1 a0_2 a0_3 A0_4 c0_4 l0_4 true _ (cz (Kd.C_below HR0_4.out HB.out)) HC0_4.out A2.out) ?_; rintro e w15 ⟨rfl, hb⟩; refine ⟨_, rfl, ?_⟩; replace BK227 := Aside0.mk (bbz BK227 hb); replace HB := Aside0.mk (below_step bzs hb); (try clear hb); obtain ⟨hcz16_0, hcz16_1, hcz16_2, hcz16_3, hcz16_4, hfz16_0, hfz16_1, hfz16_2, hfz16_3, hfz16_4⟩ := cells5 BK227) | ((with_reducible refine gt (some 18) rfl ?_); refine gc Try.func120 (spec_RingSegments.calls k A0_4 c0_4 l0_4 t235 _ (cz (Kd.C_below HR0_4.out HB.out)) HC0_4.out A12.out) ?_; rintro e w17 ⟨v236, rfl, ho0, hb⟩; refine ⟨_, rfl, ?_⟩; have HO237 := Aside0.mk (Kd.R_lower ho0 (below_size bzs)); replace BK227 := Aside0.mk (bbz BK227 hb); replace HB := Aside0.mk (below_step bzs hb); (try clear hb); (try clear ho0))); go_ret
    exact ⟨_, ez, hr HO237.out, bzs⟩
   ·rw [if_neg c11] at H; have c11b0 : (a0_1 == 3) = false := beq_eq_false_iff_ne.mpr c11; have c11b1 : (a0_1 != 3) = true := bne_iff_ne.mpr c11; obtain ⟨y238, hy238⟩ : ∃ y_ : List (S85), y_ = (([] : List (S85))) := ⟨_, rfl⟩
    replace H : (some y238) = some r := by first | (rw [hy238]; with_reducible exact H) | (have H2_ := (Option.bind_some _ _).symm.trans H; rw [hy238]; with_reducible exact H2_) | (have H2_ := (Option.bind_some _ _).symm.trans H; with_reducible exact H2_) | with_reducible exact H | (rw [hy238]; exact H) | exact H
    have Ny238 := Aside0.mk hy238; clear hy238; obtain rfl := Option.some.inj H
    go_enter Try.func69, Try.ntmps69; go_wp2_with (first | ((with_reducible refine gt (some 1) rfl ?_); refine bx #[.int .i64 a0_0, .int .i64 a0_1, .int .i64 a0_2, .string a0_3, .slice A0_4 l0_4.length c0_4] 29 ?_; intro gb227 hg w18 hbox hb; have BK227 := Aside0.mk (hbox); have GW227 := Aside0.mk (gez HB hg); have GE227 := Aside0.mk (gez HB hg); replace HB := Aside0.mk (below_step bz hb); clear hb hbox hg; obtain ⟨hcz19_0, hcz19_1, hcz19_2, hcz19_3, hcz19_4, hfz19_0, hfz19_1, hfz19_2, hfz19_3, hfz19_4⟩ := cells5 BK227) | ((with_reducible refine gt (some 4) rfl ?_); refine gc Try.func68 (spec_IsFeature.calls k a0_0 a0_1 a0_2 a0_3 A0_4 c0_4 l0_4 true _ (cz (Kd.C_below HR0_4.out HB.out)) HC0_4.out A2.out) ?_; rintro e w20 ⟨rfl, hb⟩; refine ⟨_, rfl, ?_⟩; replace BK227 := Aside0.mk (bbz BK227 hb); replace HB := Aside0.mk (below_step bzs hb); (try clear hb); obtain ⟨hcz21_0, hcz21_1, hcz21_2, hcz21_3, hcz21_4, hfz21_0, hfz21_1, hfz21_2, hfz21_3, hfz21_4⟩ := cells5 BK227) | ((with_reducible refine gate_dst (N := 19) rfl ?_); refine Kd.R_lit k85 _ 85 ?hg (N := 19) ?hd (xs := ([] : List (S85))) (inner := []) (ok := fun _ => True) (okp := fun _ => True) ?hr ?hp (fun _ hk => hk) trivial (Below.refl _ _) (Nat.le_refl _) (by simp) ?_; (case hd => rfl); (case hg => rfl); (case hr => first | (go_simp; done) | (go_simp; rfl)); (case hp => exact (Reps.none _ _)); intro v239 w22 ho23 hb hg_ hnew_; clear hg_ hnew_; (first | rw [← Ny238.out] at ho23 | (simp only [Int.reduceToNat] at ho23; rw [← Ny238.out] at ho23)); have HO240 := Aside0.mk (Kd.R_lower ho23 (below_size bzs)); replace BK227 := Aside0.mk (bbz BK227 hb); replace HB := Aside0.mk (below_step bzs hb); clear hb ho23))
    go_ret
    exact ⟨_, ez, hr HO240.out, bzs⟩
 ·replace c3 := Bool.eq_false_iff.mpr c3; subst c3; replace H := iff_ H; obtain ⟨y229, hy229⟩ : ∃ y_ : List (S85), y_ = (([] : List (S85))) := ⟨_, rfl⟩
  replace H : (some y229) = some r := by first | (rw [hy229]; with_reducible exact H) | (have H2_ := (Option.bind_some _ _).symm.trans H; rw [hy229]; with_reducible exact H2_) | (have H2_ := (Option.bind_some _ _).symm.trans H; with_reducible exact H2_) | with_reducible exact H | (rw [hy229]; exact H) | exact H
  have Ny229 := Aside0.mk hy229; clear hy229; obtain rfl := Option.some.inj H
  go_enter Try.func69, Try.ntmps69; go_wp2_with (first | ((with_reducible refine gt (some 1) rfl ?_); refine bx #[.int .i64 a0_0, .int .i64 a0_1, .int .i64 a0_2, .string a0_3, .slice A0_4 l0_4.length c0_4] 29 ?_; intro gb227 hg w24 hbox hb; have BK227 := Aside0.mk (hbox); have GW227 := Aside0.mk (gez HB hg); have GE227 := Aside0.mk (gez HB hg); replace HB := Aside0.mk (below_step bz hb); clear hb hbox hg; obtain ⟨hcz25_0, hcz25_1, hcz25_2, hcz25_3, hcz25_4, hfz25_0, hfz25_1, hfz25_2, hfz25_3, hfz25_4⟩ := cells5 BK227) | ((with_reducible refine gt (some 4) rfl ?_); refine gc Try.func68 (spec_IsFeature.calls k a0_0 a0_1 a0_2 a0_3 A0_4 c0_4 l0_4 false _ (cz (Kd.C_below HR0_4.out HB.out)) HC0_4.out A2.out) ?_; rintro e w26 ⟨rfl, hb⟩; refine ⟨_, rfl, ?_⟩; replace BK227 := Aside0.mk (bbz BK227 hb); replace HB := Aside0.mk (below_step bzs hb); (try clear hb)) | ((with_reducible refine gate_dst (N := 6) rfl ?_); refine Kd.R_lit k85 _ 85 ?hg (N := 6) ?hd (xs := ([] : List (S85))) (inner := []) (ok := fun _ => True) (okp := fun _ => True) ?hr ?hp (fun _ hk => hk) trivial (Below.refl _ _) (Nat.le_refl _) (by simp) ?_; (case hd => rfl); (case hg => rfl); (case hr => first | (go_simp; done) | (go_simp; rfl)); (case hp => exact (Reps.none _ _)); intro v230 w27 ho28 hb hg_ hnew_; clear hg_ hnew_; (first | rw [← Ny229.out] at ho28 | (simp only [Int.reduceToNat] at ho28; rw [← Ny229.out] at ho28)); have HO231 := Aside0.mk (Kd.R_lower ho28 (below_size bzs)); replace BK227 := Aside0.mk (bbz BK227 hb); replace HB := Aside0.mk (below_step bzs hb); clear hb ho28))
  go_ret
  exact ⟨_, ez, hr HO231.out, bzs⟩

end Go.Proofs.Ytdfehjfmihokpaa.PFnExactAllPieces
