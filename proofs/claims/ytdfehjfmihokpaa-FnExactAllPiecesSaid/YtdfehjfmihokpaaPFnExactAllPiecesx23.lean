-- Written by a program of this session's: the kit's print, turned (turnprint.py): functions, and that Go comes to just their answers.
import Derived.Test.YtdfehjfmihokpaaZ
import Derived.Test.YtdfehjfmihokpaaPFnExactAllPiecesx0
import Derived.Test.YtdfehjfmihokpaaPFnExactAllPiecesx15
import Derived.Test.YtdfehjfmihokpaaPFnExactAllPiecesx18
import Derived.Test.YtdfehjfmihokpaaPFnExactAllPiecesx19
import Derived.Test.YtdfehjfmihokpaaPFnExactAllPiecesx22
namespace Go.Proofs.Ytdfehjfmihokpaa.PFnExactAllPieces
open Go.RowKit Go.Proofs.YtdfehjfmihokpaaW.PrintWords Go.Proofs.YtdfehjfmihokpaaW.PrintLast Go.Proofs.YtdfehjfmihokpaaW.PrintMore Go.Proofs.YtdfehjfmihokpaaGeo Go.Proofs.YtdfehjfmihokpaaHand Go.Proofs.YtdfehjfmihokpaaMeet Go.Proofs.YtdfehjfmihokpaaQuiet Go.Proofs.YtdfehjfmihokpaaZ
attribute [local go_sem] max2_int min2_int max_two min_two max_three min_three max_four min_four   -- for this text's walks alone
set_option linter.unusedVariables false
set_option linter.unusedSimpArgs false

/-! ### impl_IsFeature: function 72 -/
def impl_IsFeature.j0 : Nat → Bool → Int → Int → Int → ByteArray → List (S82) → Option (Bool)
 | 0, _, _, _, _, _, _ => none
 | k + 1, x23, x337000, x337001, x337002, x337003, x337004 => if x23 = true then (some false) else (if x337001 = 1 then (if (x337004.length : Int) = 1 then (if 0 < (x337004.length : Int) then ((impl_IsPoint.f ((rd_T82 x337004 0).f0) ((rd_T82 x337004 0).f1)).bind fun t341 => (some t341)) else (none)) else (some false)) else (if x337001 = 2 then ((impl_IsSimple.f k x337004).bind fun t342 => (some t342)) else (if x337001 = 3 then ((impl_IsRing.f k x337004).bind fun t343 => (some t343)) else (some false))))
def impl_IsFeature.f (k : Nat) (a0_0 : Int) (a0_1 : Int) (a0_2 : Int) (a0_3 : ByteArray) (l0_4 : List (S82)) : Option (Bool) := (impl_InRange.f a0_0 1 99).bind fun t337 => (if t337 = true then ((impl_InRange.f a0_2 0 9).bind fun t338 => (if t338 = true then (if a0_3.toList = ([] : List UInt8) then (impl_IsFeature.j0 k false a0_0 a0_1 a0_2 a0_3 l0_4) else ((impl_IsName.f k a0_3).bind fun t339 => (impl_IsFeature.j0 k (!t339) a0_0 a0_1 a0_2 a0_3 l0_4))) else (impl_IsFeature.j0 k true a0_0 a0_1 a0_2 a0_3 l0_4))) else (impl_IsFeature.j0 k true a0_0 a0_1 a0_2 a0_3 l0_4))
theorem impl_IsFeature.mono_l : ∀ k, (∀ y0 y1 y2 y3 y4 y5, LeO (impl_IsFeature.j0 k y0 y1 y2 y3 y4 y5) (impl_IsFeature.j0 (k + 1) y0 y1 y2 y3 y4 y5))
 | 0 => fun _ _ _ _ _ _ r h => by simp [impl_IsFeature.j0] at h
 | k + 1 => by
  have ih0 := impl_IsFeature.mono_l k
  ·intro y0 y1 y2 y3 y4 y5
   unfold impl_IsFeature.j0
   repeat' first | (with_reducible first | exact ih0 _ _ _ _ _ _ | exact impl_IsName.mono _ _ | exact impl_IsRing.mono _ _ | exact impl_IsSimple.mono _ _ | exact LeO.refl _ | exact LeO.none _ | refine LeO.ite ?_ ?_ | refine LeO.bind ?_ (fun _ => ?_)) | exact ih0 _ _ _ _ _ _ | exact impl_IsName.mono _ _ | exact impl_IsRing.mono _ _ | exact impl_IsSimple.mono _ _ | exact LeO.none _ | refine LeO.ite ?_ ?_ | refine LeO.bind ?_ (fun _ => ?_)
theorem impl_IsFeature.mono : ∀ a0 a1 a2 a3 a4 k, LeO (impl_IsFeature.f k a0 a1 a2 a3 a4) (impl_IsFeature.f (k + 1) a0 a1 a2 a3 a4) := by
 intro a0 a1 a2 a3 a4 k; have ih0 := impl_IsFeature.mono_l k
 unfold impl_IsFeature.f
 repeat' first | (with_reducible first | exact ih0 _ _ _ _ _ _ | exact impl_IsName.mono _ _ | exact impl_IsRing.mono _ _ | exact impl_IsSimple.mono _ _ | exact LeO.refl _ | exact LeO.none _ | refine LeO.ite ?_ ?_ | refine LeO.bind ?_ (fun _ => ?_)) | exact ih0 _ _ _ _ _ _ | exact impl_IsName.mono _ _ | exact impl_IsRing.mono _ _ | exact impl_IsSimple.mono _ _ | exact LeO.none _ | refine LeO.ite ?_ ?_ | refine LeO.bind ?_ (fun _ => ?_)
set_option maxHeartbeats 8000000 in
set_option maxRecDepth 100000 in
theorem impl_IsFeature.calls (k : Nat) (a0_0 : Int) (a0_1 : Int) (a0_2 : Int) (a0_3 : ByteArray) (A0_4 : Option Addr) (c0_4 : Nat) (l0_4 : List (S82)) (r : Bool) (w : World) (hr0_4 : Kd.C k82 w A0_4 l0_4.length l0_4) (hc0_4 : l0_4.length ≤ c0_4) (h : impl_IsFeature.f k a0_0 a0_1 a0_2 a0_3 l0_4 = some r) :
  Calls Try.prog 72 #[.agg #[.int .i64 a0_0, .int .i64 a0_1, .int .i64 a0_2, .string a0_3, .slice A0_4 l0_4.length c0_4]] w fun e w' => e = .returned (.bool r) ∧ Below w.heap.size w w' := by
 have hu29 := Try.underlying29; have hu82 := Try.underlying82; have HR0_4 := Aside0.mk hr0_4; have HC0_4 := Aside0.mk hc0_4; clear hr0_4 hc0_4; have HB := Aside0.mk (Below.refl w.heap.size w); have H : ((impl_InRange.f a0_0 1 99).bind fun t337 => (if t337 = true then ((impl_InRange.f a0_2 0 9).bind fun t338 => (if t338 = true then (if a0_3.toList = ([] : List UInt8) then (impl_IsFeature.j0 k false a0_0 a0_1 a0_2 a0_3 l0_4) else ((impl_IsName.f k a0_3).bind fun t339 => (impl_IsFeature.j0 k (!t339) a0_0 a0_1 a0_2 a0_3 l0_4))) else (impl_IsFeature.j0 k true a0_0 a0_1 a0_2 a0_3 l0_4))) else (impl_IsFeature.j0 k true a0_0 a0_1 a0_2 a0_3 l0_4))) = some r := h; clear h; have HC2 := Aside0.mk H; clear H
 go_enter Try.func72, Try.ntmps72
 go_upto_region 1 with (first | ((with_reducible refine gt (some 1) rfl ?_); refine bx #[.int .i64 a0_0, .int .i64 a0_1, .int .i64 a0_2, .string a0_3, .slice A0_4 l0_4.length c0_4] 29 ?_; intro gb336 hg w3 hbox hb; have BK336 := Aside0.mk (hbox); have GW336 := Aside0.mk (gez HB hg); have GE336 := Aside0.mk (gez HB hg); replace HB := Aside0.mk (below_step bz hb); clear hb hbox hg))
 (try simp only [Act.put, List.setIfInBounds_toArray, List.set_cons_zero, List.set_cons_succ])
 go_cut [23] (fun v23 wc => ∃ (kq : Nat) (x23_1 : Bool), v23 = .bool x23_1 ∧ Aside0 (impl_IsFeature.j0 kq x23_1 a0_0 a0_1 a0_2 a0_3 l0_4 = some r) ∧ Aside0 (kq ≤ k) ∧ Aside0 (wc.heap[gb336]? = some (.cells #[.int .i64 a0_0, .int .i64 a0_1, .int .i64 a0_2, .string a0_3, (.slice A0_4 l0_4.length c0_4)] 29 (0, 0))) ∧ Aside0 (Below w.heap.size w wc))
 case first =>
  have H := HC2.out; clear HC2; replace H := Option.bind_eq_some_iff.mp H; obtain ⟨t337, A40, H⟩ := H; have A4 := Aside0.mk A40; clear A40
  by_cases c5 : t337 = true
  ·subst c5; replace H := ift H; replace H := Option.bind_eq_some_iff.mp H; obtain ⟨t338, A60, H⟩ := H; have A6 := Aside0.mk A60; clear A60
   by_cases c7 : t338 = true
   ·subst c7; replace H := ift H
    by_cases c8 : a0_3.toList = ([] : List UInt8)
    ·rw [if_pos c8] at H; have c8b0 : (a0_3.toList == ([] : List UInt8)) = true := beq_iff_eq.mpr c8; have c8b1 : (a0_3.toList != ([] : List UInt8)) = false := bne_eq_false_iff_eq.mpr c8; clear c8
     (first | rw [c8b0] | (simp only [i64_w, i32_w]; rw [c8b0]) | skip)
     have H' := Aside0.mk H; clear H; obtain ⟨hcz9_0, hcz9_1, hcz9_2, hcz9_3, hcz9_4, hfz9_0, hfz9_1, hfz9_2, hfz9_3, hfz9_4⟩ := cells5 BK336; go_wp2_with (first | ((with_reducible refine gt (some 5) rfl ?_); refine gc Try.func112 (impl_InRange.calls a0_0 1 99 true _ A4.out) ?_; rintro e w' ⟨rfl, ⟨nd, rfl⟩⟩; refine ⟨_, rfl, ?_⟩) | (go_at_call 112; (with_reducible refine (impl_InRange.calls a0_2 0 9 true _ A6.out).mono ?_); rintro e w' ⟨rfl, ⟨nd, rfl⟩⟩))
     go_meet
     case rel => exact ⟨_, (false), rz, H', ⟨qz⟩, ⟨kz BK336⟩, ⟨bzs⟩⟩
    ·rw [if_neg c8] at H; have c8b0 : (a0_3.toList == ([] : List UInt8)) = false := beq_eq_false_iff_ne.mpr c8; have c8b1 : (a0_3.toList != ([] : List UInt8)) = true := bne_iff_ne.mpr c8
     (first | rw [c8b0] | (simp only [i64_w, i32_w]; rw [c8b0]) | skip)
     replace H := Option.bind_eq_some_iff.mp H; obtain ⟨t339, A100, H⟩ := H; have A10 := Aside0.mk A100; clear A100; have H' := Aside0.mk H; clear H; obtain ⟨hcz11_0, hcz11_1, hcz11_2, hcz11_3, hcz11_4, hfz11_0, hfz11_1, hfz11_2, hfz11_3, hfz11_4⟩ := cells5 BK336; go_wp2_with (first | ((with_reducible refine gt (some 5) rfl ?_); refine gc Try.func112 (impl_InRange.calls a0_0 1 99 true _ A4.out) ?_; rintro e w' ⟨rfl, ⟨nd, rfl⟩⟩; refine ⟨_, rfl, ?_⟩) | (go_at_call 112; (with_reducible refine (impl_InRange.calls a0_2 0 9 true _ A6.out).mono ?_); rintro e w' ⟨rfl, ⟨nd, rfl⟩⟩) | (go_at_call 122; (with_reducible refine (impl_IsName.calls k a0_3 t339 _ A10.out).mono ?_); rintro e w' ⟨rfl, ⟨nd, rfl⟩⟩))
     go_meet
     case rel => exact ⟨_, (!t339), rz, H', ⟨qz⟩, ⟨kz BK336⟩, ⟨bzs⟩⟩
   ·replace c7 := Bool.eq_false_iff.mpr c7; subst c7; replace H := iff_ H; have H' := Aside0.mk H; clear H; obtain ⟨hcz12_0, hcz12_1, hcz12_2, hcz12_3, hcz12_4, hfz12_0, hfz12_1, hfz12_2, hfz12_3, hfz12_4⟩ := cells5 BK336; go_wp2_with (first | ((with_reducible refine gt (some 5) rfl ?_); refine gc Try.func112 (impl_InRange.calls a0_0 1 99 true _ A4.out) ?_; rintro e w' ⟨rfl, ⟨nd, rfl⟩⟩; refine ⟨_, rfl, ?_⟩) | (go_at_call 112; (with_reducible refine (impl_InRange.calls a0_2 0 9 false _ A6.out).mono ?_); rintro e w' ⟨rfl, ⟨nd, rfl⟩⟩))
    go_meet
    case rel => exact ⟨_, (true), rz, H', ⟨qz⟩, ⟨kz BK336⟩, ⟨bzs⟩⟩
  ·replace c5 := Bool.eq_false_iff.mpr c5; subst c5; replace H := iff_ H; have H' := Aside0.mk H; clear H; obtain ⟨hcz13_0, hcz13_1, hcz13_2, hcz13_3, hcz13_4, hfz13_0, hfz13_1, hfz13_2, hfz13_3, hfz13_4⟩ := cells5 BK336; go_wp2_with (first | ((with_reducible refine gt (some 5) rfl ?_); refine gc Try.func112 (impl_InRange.calls a0_0 1 99 false _ A4.out) ?_; rintro e w' ⟨rfl, ⟨nd, rfl⟩⟩; refine ⟨_, rfl, ?_⟩))
   go_meet
   case rel => exact ⟨_, (true), rz, H', ⟨qz⟩, ⟨kz BK336⟩, ⟨bzs⟩⟩
 case rest =>
  clear HC2; (try clear c1); (try clear p2); (try clear c5); (try clear c7); (try clear c8); (try clear c8b0); (try clear c8b1); (try clear c11); (try clear hcz11_0); (try clear hcz11_1); (try clear hcz11_2); (try clear hcz11_3); (try clear hcz11_4); (try clear hcz12_0); (try clear hcz12_1); (try clear hcz12_2); (try clear hcz12_3); (try clear hcz12_4); (try clear hcz13_0); (try clear hcz13_1); (try clear hcz13_2); (try clear hcz13_3); (try clear hcz13_4); (try clear hcz9_0); (try clear hcz9_1); (try clear hcz9_2); (try clear hcz9_3); (try clear hcz9_4); (try clear hfz11_0); (try clear hfz11_1); (try clear hfz11_2); (try clear hfz11_3); (try clear hfz11_4); (try clear hfz12_0); (try clear hfz12_1); (try clear hfz12_2); (try clear hfz12_3); (try clear hfz12_4); (try clear hfz13_0); (try clear hfz13_1); (try clear hfz13_2); (try clear hfz13_3); (try clear hfz13_4); (try clear hfz9_0); (try clear hfz9_1); (try clear hfz9_2); (try clear hfz9_3); (try clear hfz9_4); obtain ⟨kq, x23_1, rfl, HA, HJ1, BK336, HB⟩ := hcut
  cases kq with
  | zero => exact absurd HA.out (by simp [impl_IsFeature.j0])
  | succ kj1 =>
   have H := HA.out; clear HA; simp only [impl_IsFeature.j0] at H
   by_cases c14 : x23_1 = true
   ·subst c14; replace H := ift H; obtain rfl := Option.some.inj H; go_wp2; go_ret
    exact ⟨ez, bzs⟩
   ·replace c14 := Bool.eq_false_iff.mpr c14; subst c14; replace H := iff_ H
    by_cases c15 : a0_1 = 1
    ·rw [if_pos c15] at H; have c15b0 : (a0_1 == 1) = true := beq_iff_eq.mpr c15; have c15b1 : (a0_1 != 1) = false := bne_eq_false_iff_eq.mpr c15; clear c15
     by_cases c16 : (l0_4.length : Int) = 1
     ·rw [if_pos c16] at H; have c16b0 : ((l0_4.length : Int) == 1) = true := beq_iff_eq.mpr c16; have c16b1 : ((l0_4.length : Int) != 1) = false := bne_eq_false_iff_eq.mpr c16; clear c16
      by_cases c17 : 0 < (l0_4.length : Int)
      ·rw [if_pos c17] at H; have c17b0 := decide_eq_true c17; have c17b1 : decide (0 < l0_4.length) = true := decide_eq_true (by omega); clear c17; replace H := Option.bind_eq_some_iff.mp H; obtain ⟨t341, A180, H⟩ := H; have A18 := Aside0.mk A180; clear A180; obtain rfl := Option.some.inj H; obtain ⟨hcz19_0, hcz19_1, hcz19_2, hcz19_3, hcz19_4, hfz19_0, hfz19_1, hfz19_2, hfz19_3, hfz19_4⟩ := cells5 BK336; have p340 : 0 ≤ (0 : Int) := (by omega)
       have q340 : 0 < (l0_4.length : Int) := of_decide_eq_true az; obtain ⟨ad340, e340, hx340_0, hx340_1⟩ := at_T82 HR0_4.out 0 p340 q340
       cases e340
       have qi340 : (0 < l0_4.length) = True := eq_true (by omega); (try rw [show ((0 : Int)).toNat = 0 from rfl] at hx340_0); (try rw [show 0 * 2 = 0 from rfl] at hx340_0); (try rw [Addr.add_zero'] at hx340_0); (try rw [show ((0 : Int)).toNat = 0 from rfl] at hx340_1); (try rw [show 0 * 2 = 0 from rfl] at hx340_1); (try rw [Addr.add_zero'] at hx340_1); replace hx340_0 := xz HB hx340_0; replace hx340_1 := xz HB hx340_1; replace p340 := eq_true p340; replace q340 := eq_true q340; go_wp2_with (first | (go_at_call 123; (with_reducible refine (impl_IsPoint.calls ((rd_T82 l0_4 0).f0) ((rd_T82 l0_4 0).f1) t341 _ A18.out).mono ?_); rintro e w20 ⟨rfl, hb⟩; replace BK336 := Aside0.mk (bbz BK336 hb); replace HB := Aside0.mk (below_step bzs hb); (try clear hb))); go_ret
       exact ⟨ez, bzs⟩
      ·rw [if_neg c17] at H
       exact absurd H (by simp)
     ·rw [if_neg c16] at H; have c16b0 : ((l0_4.length : Int) == 1) = false := beq_eq_false_iff_ne.mpr c16; have c16b1 : ((l0_4.length : Int) != 1) = true := bne_iff_ne.mpr c16; obtain rfl := Option.some.inj H; obtain ⟨hcz21_0, hcz21_1, hcz21_2, hcz21_3, hcz21_4, hfz21_0, hfz21_1, hfz21_2, hfz21_3, hfz21_4⟩ := cells5 BK336; go_wp2; go_ret
      exact ⟨ez, bzs⟩
    ·rw [if_neg c15] at H; have c15b0 : (a0_1 == 1) = false := beq_eq_false_iff_ne.mpr c15; have c15b1 : (a0_1 != 1) = true := bne_iff_ne.mpr c15
     by_cases c22 : a0_1 = 2
     ·rw [if_pos c22] at H; have c22b0 : (a0_1 == 2) = true := beq_iff_eq.mpr c22; have c22b1 : (a0_1 != 2) = false := bne_eq_false_iff_eq.mpr c22; clear c22; replace H := Option.bind_eq_some_iff.mp H; obtain ⟨t342, A230, H⟩ := H; have A23 := Aside0.mk A230; clear A230; obtain rfl := Option.some.inj H; obtain ⟨hcz24_0, hcz24_1, hcz24_2, hcz24_3, hcz24_4, hfz24_0, hfz24_1, hfz24_2, hfz24_3, hfz24_4⟩ := cells5 BK336; go_wp2_with (first | ((with_reducible refine gt (some 43) rfl ?_); refine gc Try.func124 (impl_IsSimple.calls kj1 A0_4 c0_4 l0_4 t342 _ (cz (Kd.C_below HR0_4.out HB.out)) HC0_4.out A23.out) ?_; rintro e w25 ⟨rfl, hb⟩; refine ⟨_, rfl, ?_⟩; replace BK336 := Aside0.mk (bbz BK336 hb); replace HB := Aside0.mk (below_step bzs hb); (try clear hb))); go_ret
      exact ⟨ez, bzs⟩
     ·rw [if_neg c22] at H; have c22b0 : (a0_1 == 2) = false := beq_eq_false_iff_ne.mpr c22; have c22b1 : (a0_1 != 2) = true := bne_iff_ne.mpr c22
      by_cases c26 : a0_1 = 3
      ·rw [if_pos c26] at H; have c26b0 : (a0_1 == 3) = true := beq_iff_eq.mpr c26; have c26b1 : (a0_1 != 3) = false := bne_eq_false_iff_eq.mpr c26; clear c26; replace H := Option.bind_eq_some_iff.mp H; obtain ⟨t343, A270, H⟩ := H; have A27 := Aside0.mk A270; clear A270; obtain rfl := Option.some.inj H; obtain ⟨hcz28_0, hcz28_1, hcz28_2, hcz28_3, hcz28_4, hfz28_0, hfz28_1, hfz28_2, hfz28_3, hfz28_4⟩ := cells5 BK336; go_wp2_with (first | ((with_reducible refine gt (some 48) rfl ?_); refine gc Try.func114 (impl_IsRing.calls kj1 A0_4 c0_4 l0_4 t343 _ (cz (Kd.C_below HR0_4.out HB.out)) HC0_4.out A27.out) ?_; rintro e w29 ⟨rfl, hb⟩; refine ⟨_, rfl, ?_⟩; replace BK336 := Aside0.mk (bbz BK336 hb); replace HB := Aside0.mk (below_step bzs hb); (try clear hb))); go_ret
       exact ⟨ez, bzs⟩
      ·rw [if_neg c26] at H; have c26b0 : (a0_1 == 3) = false := beq_eq_false_iff_ne.mpr c26; have c26b1 : (a0_1 != 3) = true := bne_iff_ne.mpr c26; obtain rfl := Option.some.inj H; obtain ⟨hcz30_0, hcz30_1, hcz30_2, hcz30_3, hcz30_4, hfz30_0, hfz30_1, hfz30_2, hfz30_3, hfz30_4⟩ := cells5 BK336; go_wp2; go_ret
       exact ⟨ez, bzs⟩

end Go.Proofs.Ytdfehjfmihokpaa.PFnExactAllPieces
