-- Written by a program of this session's: the kit's print, turned (turnprint.py): functions, and that Go comes to just their answers.
import Derived.Test.YtdfehjfmihokpaaZ
import Derived.Test.YtdfehjfmihokpaaPFnExactPieceDigestx0
import Derived.Test.YtdfehjfmihokpaaPFnExactPieceDigestx15
import Derived.Test.YtdfehjfmihokpaaPFnExactPieceDigestx17
import Derived.Test.YtdfehjfmihokpaaPFnExactPieceDigestx18
import Derived.Test.YtdfehjfmihokpaaPFnExactPieceDigestx20
import Derived.Test.YtdfehjfmihokpaaPFnExactPieceDigestx21
namespace Go.Proofs.Ytdfehjfmihokpaa.PFnExactPieceDigest
open Go.RowKit Go.Proofs.YtdfehjfmihokpaaW.PrintWords Go.Proofs.YtdfehjfmihokpaaW.PrintLast Go.Proofs.YtdfehjfmihokpaaW.PrintMore Go.Proofs.YtdfehjfmihokpaaGeo Go.Proofs.YtdfehjfmihokpaaHand Go.Proofs.YtdfehjfmihokpaaZ
attribute [local go_sem] max2_int min2_int max_two min_two max_three min_three max_four min_four   -- for this text's walks alone
set_option linter.unusedVariables false
set_option linter.unusedSimpArgs false

/-! ### impl_IsFeature: function 72 -/
def impl_IsFeature.j0 : Nat → Bool → Int → Int → Int → ByteArray → List (S82) → Option (Bool)
 | 0, _, _, _, _, _, _ => none
 | k + 1, x23, x366000, x366001, x366002, x366003, x366004 => if x23 = true then (some false) else (if x366001 = 1 then (if (x366004.length : Int) = 1 then (if 0 < (x366004.length : Int) then ((impl_IsPoint.f ((rd_T82 x366004 0).f0) ((rd_T82 x366004 0).f1)).bind fun t370 => (some t370)) else (none)) else (some false)) else (if x366001 = 2 then ((impl_IsSimple.f k x366004).bind fun t371 => (some t371)) else (if x366001 = 3 then ((impl_IsRing.f k x366004).bind fun t372 => (some t372)) else (some false))))
def impl_IsFeature.f (k : Nat) (a0_0 : Int) (a0_1 : Int) (a0_2 : Int) (a0_3 : ByteArray) (l0_4 : List (S82)) : Option (Bool) := (impl_InRange.f a0_0 1 99).bind fun t366 => (if t366 = true then ((impl_InRange.f a0_2 0 9).bind fun t367 => (if t367 = true then (if a0_3.toList = ([] : List UInt8) then (impl_IsFeature.j0 k false a0_0 a0_1 a0_2 a0_3 l0_4) else ((impl_IsName.f k a0_3).bind fun t368 => (impl_IsFeature.j0 k (!t368) a0_0 a0_1 a0_2 a0_3 l0_4))) else (impl_IsFeature.j0 k true a0_0 a0_1 a0_2 a0_3 l0_4))) else (impl_IsFeature.j0 k true a0_0 a0_1 a0_2 a0_3 l0_4))
theorem impl_IsFeature.mono_l : ∀ k, (∀ y0 y1 y2 y3 y4 y5, LeO (impl_IsFeature.j0 k y0 y1 y2 y3 y4 y5) (impl_IsFeature.j0 (k + 1) y0 y1 y2 y3 y4 y5))
 | 0 => fun _ _ _ _ _ _ r h => by simp [impl_IsFeature.j0] at h
 | k + 1 => by
  have ih0 := impl_IsFeature.mono_l k
  ·intro y0 y1 y2 y3 y4 y5
   unfold impl_IsFeature.j0
   repeat' first | (with_reducible first | exact ih0 _ _ _ _ _ _ | exact impl_IsName.mono _ _ | exact impl_IsRing.mono _ _ | exact impl_IsSimple.mono _ _ | exact LeO.refl _ | exact LeO.none _ | refine LeO.ite ?_ ?_ | refine LeO.bind ?_ (fun _ => ?_)) | exact ih0 _ _ _ _ _ _ | exact impl_IsName.mono _ _ | exact impl_IsRing.mono _ _ | exact impl_IsSimple.mono _ _ | exact LeO.none _ | refine LeO.ite ?_ ?_ | refine LeO.bind ?_ (fun _ => ?_)
theorem impl_IsFeature.mono : ∀ a0 a1 a2 a3 a4 k, LeO (impl_IsFeature.f k a0 a1 a2 a3 a4) (impl_IsFeature.f (k + 1) a0 a1 a2 a3 a4) := by
 intro a0 a1 a2 a3 a4 k; have ih0 := impl_IsFeature.mono_l k
 unfold impl_IsFeature.f
 repeat' first | (with_reducible first | exact ih0 _ _ _ _ _ _ | exact impl_IsName.mono _ _ | exact impl_IsRing.mono _ _ | exact impl_IsSimple.mono _ _ | exact LeO.refl _ | exact LeO.none _ | refine LeO.ite ?_ ?_ | refine LeO.bind ?_ (fun _ => ?_)) | exact ih0 _ _ _ _ _ _ | exact impl_IsName.mono _ _ | exact impl_IsRing.mono _ _ | exact impl_IsSimple.mono _ _ | exact LeO.none _ | refine LeO.ite ?_ ?_ | refine LeO.bind ?_ (fun _ => ?_)
set_option maxHeartbeats 8000000 in
set_option maxRecDepth 100000 in
theorem impl_IsFeature.calls (k : Nat) (a0_0 : Int) (a0_1 : Int) (a0_2 : Int) (a0_3 : ByteArray) (A0_4 : Option Addr) (c0_4 : Nat) (l0_4 : List (S82)) (r : Bool) (w : World) (hr0_4 : Kd.C k82 w A0_4 l0_4.length l0_4) (hc0_4 : l0_4.length ≤ c0_4) (h : impl_IsFeature.f k a0_0 a0_1 a0_2 a0_3 l0_4 = some r) :
  Calls Try.prog 72 #[.agg #[.int .i64 a0_0, .int .i64 a0_1, .int .i64 a0_2, .string a0_3, .slice A0_4 l0_4.length c0_4]] w fun e w' => e = .returned (.bool r) ∧ Below w.heap.size w w' := by
 have hu29 := Try.underlying29; have hu82 := Try.underlying82; have HR0_4 := Aside0.mk hr0_4; have HC0_4 := Aside0.mk hc0_4; clear hr0_4 hc0_4; have HB := Aside0.mk (Below.refl w.heap.size w); have H : ((impl_InRange.f a0_0 1 99).bind fun t366 => (if t366 = true then ((impl_InRange.f a0_2 0 9).bind fun t367 => (if t367 = true then (if a0_3.toList = ([] : List UInt8) then (impl_IsFeature.j0 k false a0_0 a0_1 a0_2 a0_3 l0_4) else ((impl_IsName.f k a0_3).bind fun t368 => (impl_IsFeature.j0 k (!t368) a0_0 a0_1 a0_2 a0_3 l0_4))) else (impl_IsFeature.j0 k true a0_0 a0_1 a0_2 a0_3 l0_4))) else (impl_IsFeature.j0 k true a0_0 a0_1 a0_2 a0_3 l0_4))) = some r := h; clear h; have HC2 := Aside0.mk H; clear H
 go_enter Try.func72, Try.ntmps72
 go_upto_region 1 with (first | ((with_reducible refine gt (some 1) rfl ?_); refine bx #[.int .i64 a0_0, .int .i64 a0_1, .int .i64 a0_2, .string a0_3, .slice A0_4 l0_4.length c0_4] 29 ?_; intro gb365 hg w3 hbox hb; have BK365 := Aside0.mk (hbox); have GW365 := Aside0.mk (gez HB hg); have GE365 := Aside0.mk (gez HB hg); replace HB := Aside0.mk (below_step bz hb); clear hb hbox hg))
 (try simp only [Act.put, List.setIfInBounds_toArray, List.set_cons_zero, List.set_cons_succ])
 go_cut [23] (fun v23 wc => ∃ (kq : Nat) (x23_1 : Bool), v23 = .bool x23_1 ∧ Aside0 (impl_IsFeature.j0 kq x23_1 a0_0 a0_1 a0_2 a0_3 l0_4 = some r) ∧ Aside0 (kq ≤ k) ∧ Aside0 (wc.heap[gb365]? = some (.cells #[.int .i64 a0_0, .int .i64 a0_1, .int .i64 a0_2, .string a0_3, (.slice A0_4 l0_4.length c0_4)] 29 (0, 0))) ∧ Aside0 (Below w.heap.size w wc))
 case first =>
  have H := HC2.out; clear HC2; replace H := Option.bind_eq_some_iff.mp H; obtain ⟨t366, A40, H⟩ := H; have A4 := Aside0.mk A40; clear A40
  by_cases c5 : t366 = true
  ·subst c5; replace H := ift H; replace H := Option.bind_eq_some_iff.mp H; obtain ⟨t367, A60, H⟩ := H; have A6 := Aside0.mk A60; clear A60
   by_cases c7 : t367 = true
   ·subst c7; replace H := ift H
    by_cases c8 : a0_3.toList = ([] : List UInt8)
    ·rw [if_pos c8] at H; have c8b0 : (a0_3.toList == ([] : List UInt8)) = true := beq_iff_eq.mpr c8; have c8b1 : (a0_3.toList != ([] : List UInt8)) = false := bne_eq_false_iff_eq.mpr c8; clear c8
     (first | rw [c8b0] | (simp only [i64_w, i32_w]; rw [c8b0]) | skip)
     have H' := Aside0.mk H; clear H; obtain ⟨hcz9_0, hcz9_1, hcz9_2, hcz9_3, hcz9_4, hfz9_0, hfz9_1, hfz9_2, hfz9_3, hfz9_4⟩ := cells5 BK365; go_wp2_with (first | ((with_reducible refine gt (some 5) rfl ?_); refine gc Try.func112 (impl_InRange.calls a0_0 1 99 true _ A4.out) ?_; rintro e w' ⟨rfl, ⟨nd, rfl⟩⟩; refine ⟨_, rfl, ?_⟩) | (go_at_call 112; (with_reducible refine (impl_InRange.calls a0_2 0 9 true _ A6.out).mono ?_); rintro e w' ⟨rfl, ⟨nd, rfl⟩⟩))
     go_meet
     case rel => exact ⟨_, (false), rz, H', ⟨qz⟩, ⟨kz BK365⟩, ⟨bzs⟩⟩
    ·rw [if_neg c8] at H; have c8b0 : (a0_3.toList == ([] : List UInt8)) = false := beq_eq_false_iff_ne.mpr c8; have c8b1 : (a0_3.toList != ([] : List UInt8)) = true := bne_iff_ne.mpr c8
     (first | rw [c8b0] | (simp only [i64_w, i32_w]; rw [c8b0]) | skip)
     replace H := Option.bind_eq_some_iff.mp H; obtain ⟨t368, A100, H⟩ := H; have A10 := Aside0.mk A100; clear A100; have H' := Aside0.mk H; clear H; obtain ⟨hcz11_0, hcz11_1, hcz11_2, hcz11_3, hcz11_4, hfz11_0, hfz11_1, hfz11_2, hfz11_3, hfz11_4⟩ := cells5 BK365; go_wp2_with (first | ((with_reducible refine gt (some 5) rfl ?_); refine gc Try.func112 (impl_InRange.calls a0_0 1 99 true _ A4.out) ?_; rintro e w' ⟨rfl, ⟨nd, rfl⟩⟩; refine ⟨_, rfl, ?_⟩) | (go_at_call 112; (with_reducible refine (impl_InRange.calls a0_2 0 9 true _ A6.out).mono ?_); rintro e w' ⟨rfl, ⟨nd, rfl⟩⟩) | (go_at_call 122; (with_reducible refine (impl_IsName.calls k a0_3 t368 _ A10.out).mono ?_); rintro e w' ⟨rfl, ⟨nd, rfl⟩⟩))
     go_meet
     case rel => exact ⟨_, (!t368), rz, H', ⟨qz⟩, ⟨kz BK365⟩, ⟨bzs⟩⟩
   ·replace c7 := Bool.eq_false_iff.mpr c7; subst c7; replace H := iff_ H; have H' := Aside0.mk H; clear H; obtain ⟨hcz12_0, hcz12_1, hcz12_2, hcz12_3, hcz12_4, hfz12_0, hfz12_1, hfz12_2, hfz12_3, hfz12_4⟩ := cells5 BK365; go_wp2_with (first | ((with_reducible refine gt (some 5) rfl ?_); refine gc Try.func112 (impl_InRange.calls a0_0 1 99 true _ A4.out) ?_; rintro e w' ⟨rfl, ⟨nd, rfl⟩⟩; refine ⟨_, rfl, ?_⟩) | (go_at_call 112; (with_reducible refine (impl_InRange.calls a0_2 0 9 false _ A6.out).mono ?_); rintro e w' ⟨rfl, ⟨nd, rfl⟩⟩))
    go_meet
    case rel => exact ⟨_, (true), rz, H', ⟨qz⟩, ⟨kz BK365⟩, ⟨bzs⟩⟩
  ·replace c5 := Bool.eq_false_iff.mpr c5; subst c5; replace H := iff_ H; have H' := Aside0.mk H; clear H; obtain ⟨hcz13_0, hcz13_1, hcz13_2, hcz13_3, hcz13_4, hfz13_0, hfz13_1, hfz13_2, hfz13_3, hfz13_4⟩ := cells5 BK365; go_wp2_with (first | ((with_reducible refine gt (some 5) rfl ?_); refine gc Try.func112 (impl_InRange.calls a0_0 1 99 false _ A4.out) ?_; rintro e w' ⟨rfl, ⟨nd, rfl⟩⟩; refine ⟨_, rfl, ?_⟩))
   go_meet
   case rel => exact ⟨_, (true), rz, H', ⟨qz⟩, ⟨kz BK365⟩, ⟨bzs⟩⟩
 case rest =>
  clear HC2; (try clear c1); (try clear p2); (try clear c5); (try clear c7); (try clear c8); (try clear c8b0); (try clear c8b1); (try clear c11); (try clear hcz11_0); (try clear hcz11_1); (try clear hcz11_2); (try clear hcz11_3); (try clear hcz11_4); (try clear hcz12_0); (try clear hcz12_1); (try clear hcz12_2); (try clear hcz12_3); (try clear hcz12_4); (try clear hcz13_0); (try clear hcz13_1); (try clear hcz13_2); (try clear hcz13_3); (try clear hcz13_4); (try clear hcz9_0); (try clear hcz9_1); (try clear hcz9_2); (try clear hcz9_3); (try clear hcz9_4); (try clear hfz11_0); (try clear hfz11_1); (try clear hfz11_2); (try clear hfz11_3); (try clear hfz11_4); (try clear hfz12_0); (try clear hfz12_1); (try clear hfz12_2); (try clear hfz12_3); (try clear hfz12_4); (try clear hfz13_0); (try clear hfz13_1); (try clear hfz13_2); (try clear hfz13_3); (try clear hfz13_4); (try clear hfz9_0); (try clear hfz9_1); (try clear hfz9_2); (try clear hfz9_3); (try clear hfz9_4); obtain ⟨kq, x23_1, rfl, HA, HJ1, BK365, HB⟩ := hcut
  cases kq with
  | zero => exact absurd HA.out (by simp [impl_IsFeature.j0])
  | succ kj1 =>
   have H := HA.out; clear HA; simp only [impl_IsFeature.j0] at H
   by_cases c14 : x23_1 = true
   ·subst c14; replace H := ift H; obtain rfl := Option.some.inj H; go_wp2; go_ret
    exact ⟨ez, bzs⟩
   ·replace c14 := Bool.eq_false_iff.mpr c14; subst c14; replace H := iff_ H
    by_cases c15 : a0_1 = 1
    ·rw [if_pos c15] at H; have c15b0 : (a0_1 == 1) = true := beq_iff_eq.mpr c15; have c15b1 : (a0_1 != 1) = false := bne_eq_false_iff_eq.mpr c15; clear c15
     by_cases c16 : (l0_4.length : Int) = 1
     ·rw [if_pos c16] at H; have c16b0 : ((l0_4.length : Int) == 1) = true := beq_iff_eq.mpr c16; have c16b1 : ((l0_4.length : Int) != 1) = false := bne_eq_false_iff_eq.mpr c16; clear c16
      by_cases c17 : 0 < (l0_4.length : Int)
      ·rw [if_pos c17] at H; have c17b0 := decide_eq_true c17; have c17b1 : decide (0 < l0_4.length) = true := decide_eq_true (by omega); clear c17; replace H := Option.bind_eq_some_iff.mp H; obtain ⟨t370, A180, H⟩ := H; have A18 := Aside0.mk A180; clear A180; obtain rfl := Option.some.inj H; obtain ⟨hcz19_0, hcz19_1, hcz19_2, hcz19_3, hcz19_4, hfz19_0, hfz19_1, hfz19_2, hfz19_3, hfz19_4⟩ := cells5 BK365; have p369 : 0 ≤ (0 : Int) := (by omega)
       have q369 : 0 < (l0_4.length : Int) := of_decide_eq_true az; obtain ⟨ad369, e369, hx369_0, hx369_1⟩ := at_T82 HR0_4.out 0 p369 q369
       cases e369
       have qi369 : (0 < l0_4.length) = True := eq_true (by omega); (try rw [show ((0 : Int)).toNat = 0 from rfl] at hx369_0); (try rw [show 0 * 2 = 0 from rfl] at hx369_0); (try rw [Addr.add_zero'] at hx369_0); (try rw [show ((0 : Int)).toNat = 0 from rfl] at hx369_1); (try rw [show 0 * 2 = 0 from rfl] at hx369_1); (try rw [Addr.add_zero'] at hx369_1); replace hx369_0 := xz HB hx369_0; replace hx369_1 := xz HB hx369_1; replace p369 := eq_true p369; replace q369 := eq_true q369; go_wp2_with (first | (go_at_call 123; (with_reducible refine (impl_IsPoint.calls ((rd_T82 l0_4 0).f0) ((rd_T82 l0_4 0).f1) t370 _ A18.out).mono ?_); rintro e w20 ⟨rfl, hb⟩; replace BK365 := Aside0.mk (bbz BK365 hb); replace HB := Aside0.mk (below_step bzs hb); (try clear hb))); go_ret
       exact ⟨ez, bzs⟩
      ·rw [if_neg c17] at H
       exact absurd H (by simp)
     ·rw [if_neg c16] at H; have c16b0 : ((l0_4.length : Int) == 1) = false := beq_eq_false_iff_ne.mpr c16; have c16b1 : ((l0_4.length : Int) != 1) = true := bne_iff_ne.mpr c16; obtain rfl := Option.some.inj H; obtain ⟨hcz21_0, hcz21_1, hcz21_2, hcz21_3, hcz21_4, hfz21_0, hfz21_1, hfz21_2, hfz21_3, hfz21_4⟩ := cells5 BK365; go_wp2; go_ret
      exact ⟨ez, bzs⟩
    ·rw [if_neg c15] at H; have c15b0 : (a0_1 == 1) = false := beq_eq_false_iff_ne.mpr c15; have c15b1 : (a0_1 != 1) = true := bne_iff_ne.mpr c15
     by_cases c22 : a0_1 = 2
     ·rw [if_pos c22] at H; have c22b0 : (a0_1 == 2) = true := beq_iff_eq.mpr c22; have c22b1 : (a0_1 != 2) = false := bne_eq_false_iff_eq.mpr c22; clear c22; replace H := Option.bind_eq_some_iff.mp H; obtain ⟨t371, A230, H⟩ := H; have A23 := Aside0.mk A230; clear A230; obtain rfl := Option.some.inj H; obtain ⟨hcz24_0, hcz24_1, hcz24_2, hcz24_3, hcz24_4, hfz24_0, hfz24_1, hfz24_2, hfz24_3, hfz24_4⟩ := cells5 BK365; go_wp2_with (first | ((with_reducible refine gt (some 43) rfl ?_); refine gc Try.func124 (impl_IsSimple.calls kj1 _ _ l0_4 t371 _ (cz (Kd.C_below HR0_4.out HB.out)) HC0_4.out A23.out) ?_; rintro e w25 ⟨rfl, hb⟩; refine ⟨_, rfl, ?_⟩; replace BK365 := Aside0.mk (bbz BK365 hb); replace HB := Aside0.mk (below_step bzs hb); (try clear hb))); go_ret
      exact ⟨ez, bzs⟩
     ·rw [if_neg c22] at H; have c22b0 : (a0_1 == 2) = false := beq_eq_false_iff_ne.mpr c22; have c22b1 : (a0_1 != 2) = true := bne_iff_ne.mpr c22
      by_cases c26 : a0_1 = 3
      ·rw [if_pos c26] at H; have c26b0 : (a0_1 == 3) = true := beq_iff_eq.mpr c26; have c26b1 : (a0_1 != 3) = false := bne_eq_false_iff_eq.mpr c26; clear c26; replace H := Option.bind_eq_some_iff.mp H; obtain ⟨t372, A270, H⟩ := H; have A27 := Aside0.mk A270; clear A270; obtain rfl := Option.some.inj H; obtain ⟨hcz28_0, hcz28_1, hcz28_2, hcz28_3, hcz28_4, hfz28_0, hfz28_1, hfz28_2, hfz28_3, hfz28_4⟩ := cells5 BK365; go_wp2_with (first | ((with_reducible refine gt (some 48) rfl ?_); refine gc Try.func114 (impl_IsRing.calls kj1 _ _ l0_4 t372 _ (cz (Kd.C_below HR0_4.out HB.out)) HC0_4.out A27.out) ?_; rintro e w29 ⟨rfl, hb⟩; refine ⟨_, rfl, ?_⟩; replace BK365 := Aside0.mk (bbz BK365 hb); replace HB := Aside0.mk (below_step bzs hb); (try clear hb))); go_ret
       exact ⟨ez, bzs⟩
      ·rw [if_neg c26] at H; have c26b0 : (a0_1 == 3) = false := beq_eq_false_iff_ne.mpr c26; have c26b1 : (a0_1 != 3) = true := bne_iff_ne.mpr c26; obtain rfl := Option.some.inj H; obtain ⟨hcz30_0, hcz30_1, hcz30_2, hcz30_3, hcz30_4, hfz30_0, hfz30_1, hfz30_2, hfz30_3, hfz30_4⟩ := cells5 BK365; go_wp2; go_ret
       exact ⟨ez, bzs⟩

/-! ### impl_Mod: function 153 -/
def impl_Mod.f (a0 : Int) (a1 : Int) : Option (Int) := (impl_InRange.f a1 1 1000000000000).bind fun t373 => (if t373 = true then (if a1 = 0 then (none) else (if (Int.tmod a0 a1) < 0 then (some (wrap64 ((Int.tmod a0 a1) + a1))) else (some (Int.tmod a0 a1)))) else (some 0))
set_option maxHeartbeats 8000000 in
set_option maxRecDepth 100000 in
theorem impl_Mod.calls (a0 : Int) (a1 : Int) (r : Int) (w : World) (h : impl_Mod.f a0 a1 = some r) :
  Calls Try.prog 153 #[.int .i64 a0, .int .i64 a1] w fun e w' => e = .returned (.int .i64 r) ∧ Drawn0 w w' := by
 have H : ((impl_InRange.f a1 1 1000000000000).bind fun t373 => (if t373 = true then (if a1 = 0 then (none) else (if (Int.tmod a0 a1) < 0 then (some (wrap64 ((Int.tmod a0 a1) + a1))) else (some (Int.tmod a0 a1)))) else (some 0))) = some r := h; clear h; replace H := Option.bind_eq_some_iff.mp H; obtain ⟨t373, A30, H⟩ := H; have A3 := Aside0.mk A30; clear A30
 by_cases c4 : t373 = true
 ·subst c4; replace H := ift H
  by_cases c5 : a1 = 0
  ·rw [if_pos c5] at H
   exact absurd H (by simp)
  ·rw [if_neg c5] at H; have c5b0 : (a1 == 0) = false := beq_eq_false_iff_ne.mpr c5; have c5b1 : (a1 != 0) = true := bne_iff_ne.mpr c5
   by_cases c6 : (Int.tmod a0 a1) < 0
   ·rw [if_pos c6] at H; have c6b0 := decide_eq_true c6; clear c6; obtain rfl := Option.some.inj H
    go_enter Try.func153, Try.ntmps153; go_wp2_with (first | ((with_reducible refine gt (some 7) rfl ?_); refine gc Try.func112 (impl_InRange.calls a1 1 1000000000000 true _ A3.out) ?_; rintro e w' ⟨rfl, ⟨nd, rfl⟩⟩; refine ⟨_, rfl, ?_⟩)); go_ret
    exact ⟨by first | rfl | (simp; done) | (simp [*]; done), by repeat (first | exact Drawn0.refl _ | apply Drawn0.step)⟩
   ·rw [if_neg c6] at H; have c6b0 := decide_eq_false c6; clear c6; obtain rfl := Option.some.inj H
    go_enter Try.func153, Try.ntmps153; go_wp2_with (first | ((with_reducible refine gt (some 7) rfl ?_); refine gc Try.func112 (impl_InRange.calls a1 1 1000000000000 true _ A3.out) ?_; rintro e w' ⟨rfl, ⟨nd, rfl⟩⟩; refine ⟨_, rfl, ?_⟩)); go_ret
    exact ⟨by first | rfl | (simp; done) | (simp [*]; done), by repeat (first | exact Drawn0.refl _ | apply Drawn0.step)⟩
 ·replace c4 := Bool.eq_false_iff.mpr c4; subst c4; replace H := iff_ H; obtain rfl := Option.some.inj H
  go_enter Try.func153, Try.ntmps153; go_wp2_with (first | ((with_reducible refine gt (some 7) rfl ?_); refine gc Try.func112 (impl_InRange.calls a1 1 1000000000000 false _ A3.out) ?_; rintro e w' ⟨rfl, ⟨nd, rfl⟩⟩; refine ⟨_, rfl, ?_⟩)); go_ret
  exact ⟨by first | rfl | (simp; done) | (simp [*]; done), by repeat (first | exact Drawn0.refl _ | apply Drawn0.step)⟩

/-! ### impl_fold: function 125 -/
def impl_fold.f (a0 : Int) (a1 : Int) : Option (Int) := (impl_Mod.f a1 2147483647).bind fun t374 => (some (Int.tmod (wrap64 ((wrap64 ((wrap64 (a0 * 1000003)) + t374)) + 13)) 2147483647))
set_option maxHeartbeats 8000000 in
set_option maxRecDepth 100000 in
theorem impl_fold.calls (a0 : Int) (a1 : Int) (r : Int) (w : World) (h : impl_fold.f a0 a1 = some r) :
  Calls Try.prog 125 #[.int .i64 a0, .int .i64 a1] w fun e w' => e = .returned (.int .i64 r) ∧ Drawn0 w w' := by
 have H : ((impl_Mod.f a1 2147483647).bind fun t374 => (some (Int.tmod (wrap64 ((wrap64 ((wrap64 (a0 * 1000003)) + t374)) + 13)) 2147483647))) = some r := h; clear h; replace H := Option.bind_eq_some_iff.mp H; obtain ⟨t374, A30, H⟩ := H; have A3 := Aside0.mk A30; clear A30; obtain rfl := Option.some.inj H
 go_enter Try.func125, Try.ntmps125; go_wp2_with (first | ((with_reducible refine gt (some 8) rfl ?_); refine gc Try.func153 (impl_Mod.calls a1 2147483647 t374 _ A3.out) ?_; rintro e w' ⟨rfl, ⟨nd, rfl⟩⟩; refine ⟨_, rfl, ?_⟩)); go_ret
 exact ⟨by first | rfl | (simp; done) | (simp [*]; done), by repeat (first | exact Drawn0.refl _ | apply Drawn0.step)⟩

/-! ### impl_Hash: function 73 -/
def impl_Hash.l0 : Nat → Int → List Int → Int → Int → Option (Int)
 | 0, _, _, _, _ => none
 | k + 1, x3, x6, x7, x8 => if x8 < x7 then (if 0 ≤ x8 then (if x8 < (x6.length : Int) then ((impl_fold.f x3 (rd x6 x8)).bind fun t376 => (impl_Hash.l0 k t376 x6 x7 (wrap64 (x8 + 1)))) else (none)) else (none)) else (some x3)
def impl_Hash.f (k : Nat) (l0 : List Int) : Option (Int) := impl_Hash.l0 k 11 l0 (l0.length : Int) 0
theorem impl_Hash.mono_l : ∀ k, (∀ y0 y1 y2 y3, LeO (impl_Hash.l0 k y0 y1 y2 y3) (impl_Hash.l0 (k + 1) y0 y1 y2 y3))
 | 0 => fun _ _ _ _ r h => by simp [impl_Hash.l0] at h
 | k + 1 => by
  have ih0 := impl_Hash.mono_l k
  ·intro y0 y1 y2 y3
   unfold impl_Hash.l0
   repeat' first | (with_reducible first | exact ih0 _ _ _ _ | exact LeO.refl _ | exact LeO.none _ | refine LeO.ite ?_ ?_ | refine LeO.bind ?_ (fun _ => ?_)) | exact ih0 _ _ _ _ | exact LeO.none _ | refine LeO.ite ?_ ?_ | refine LeO.bind ?_ (fun _ => ?_)
theorem impl_Hash.mono : ∀ a0 k, LeO (impl_Hash.f k a0) (impl_Hash.f (k + 1) a0) := by
 intro a0 k; have ih0 := impl_Hash.mono_l k
 unfold impl_Hash.f
 repeat' first | (with_reducible first | exact ih0 _ _ _ _ | exact LeO.refl _ | exact LeO.none _ | refine LeO.ite ?_ ?_ | refine LeO.bind ?_ (fun _ => ?_)) | exact ih0 _ _ _ _ | exact LeO.none _ | refine LeO.ite ?_ ?_ | refine LeO.bind ?_ (fun _ => ?_)
set_option maxHeartbeats 8000000 in
set_option maxRecDepth 100000 in
theorem impl_Hash.calls (k : Nat) (A0 : Option Addr) (c0 : Nat) (l0 : List Int) (r : Int) (w : World) (hr0 : Kd.C (Kd.int .i64) w A0 l0.length l0) (hc0 : l0.length ≤ c0) (h : impl_Hash.f k l0 = some r) :
  Calls Try.prog 73 #[.slice A0 l0.length c0] w fun e w' => e = .returned (.int .i64 r) ∧ Drawn0 w w' := by
 have HR0 := Aside0.mk hr0; have HC0 := Aside0.mk hc0; clear hr0 hc0; have H : (impl_Hash.l0 k 11 l0 (l0.length : Int) 0) = some r := h; clear h; have H' := Aside0.mk H; clear H
 go_enter Try.func73, Try.ntmps73; go_wp2
 go_loopg [3, 8] k (fun kq v3 v8 w' => ∃ (x3_1 : Int) (x8_1 : Int), v3 = .int .i64 x3_1 ∧ v8 = .int .i64 x8_1 ∧ Aside0 (impl_Hash.l0 kq x3_1 l0 (l0.length : Int) x8_1 = some r) ∧ Aside0 (kq ≤ k) ∧ Drawn0 w w')
 case atStart => exact ⟨(11), (0), rz, rz, H', ⟨Nat.le_refl _⟩, by repeat (first | exact Drawn0.refl _ | apply Drawn0.step)⟩
 case round =>
  clear H'; obtain ⟨x3_1, x8_1, rfl, rfl, HA, HK1, ⟨m1, rfl⟩⟩ := hrel
  cases gk with
  | zero => exact absurd HA.out (by simp [impl_Hash.l0])
  | succ k1 =>
   have H := HA.out; clear HA; simp only [impl_Hash.l0] at H
   by_cases c2 : x8_1 < (l0.length : Int)
   ·rw [if_pos c2] at H; have c2b0 := decide_eq_true c2; clear c2
    by_cases c3 : 0 ≤ x8_1
    ·rw [if_pos c3] at H; have c3b0 := decide_eq_true c3; clear c3
     by_cases c4 : x8_1 < (l0.length : Int)
     ·rw [if_pos c4] at H; have c4b0 := decide_eq_true c4; clear c4; replace H := Option.bind_eq_some_iff.mp H; obtain ⟨t376, A50, H⟩ := H; have A5 := Aside0.mk A50; clear A50; have H' := Aside0.mk H; clear H; have p375 : 0 ≤ (x8_1 : Int) := of_decide_eq_true az; have q375 : x8_1 < (l0.length : Int) := of_decide_eq_true az; obtain ⟨ad375, e375, hx375_0⟩ := Kd.at_int HR0.out x8_1 p375 q375
      cases e375
      replace p375 := eq_true p375; replace q375 := eq_true q375; go_wp2_with (first | ((with_reducible refine gt (some 14) rfl ?_); refine gc Try.func125 (impl_fold.calls x3_1 (rd l0 x8_1) t376 _ A5.out) ?_; rintro e w' ⟨rfl, ⟨nd, rfl⟩⟩; refine ⟨_, rfl, ?_⟩))
      go_roundg k1
      case measure => have := HK1.out; omega
      case rel => exact ⟨(t376), (wrap64 (x8_1 + 1)), rz, rz, H', ⟨by have := HK1.out; omega⟩, by repeat (first | exact Drawn0.refl _ | apply Drawn0.step)⟩
     ·rw [if_neg c4] at H
      exact absurd H (by simp)
    ·rw [if_neg c3] at H
     exact absurd H (by simp)
   ·rw [if_neg c2] at H; have c2b0 := decide_eq_false c2; clear c2; obtain rfl := Option.some.inj H; go_wp2; go_ret
    exact ⟨by first | rfl | (simp; done) | (simp [*]; done), by repeat (first | exact Drawn0.refl _ | apply Drawn0.step)⟩

/-! ### impl_RingSegments: function 127 -/
def impl_RingSegments.f (k : Nat) (l0 : List (S82)) : Option ((List (S85))) := (impl_IsRing.f k l0).bind fun t377 => (if t377 = true then ((impl_around.f k l0).bind fun t378 => (some t378)) else (some (([] : List (S85)))))
theorem impl_RingSegments.mono : ∀ a0 k, LeO (impl_RingSegments.f k a0) (impl_RingSegments.f (k + 1) a0) := by
 intro a0 k
 unfold impl_RingSegments.f
 repeat' first | (with_reducible first | exact impl_IsRing.mono _ _ | exact impl_around.mono _ _ | exact LeO.refl _ | exact LeO.none _ | refine LeO.ite ?_ ?_ | refine LeO.bind ?_ (fun _ => ?_)) | exact impl_IsRing.mono _ _ | exact impl_around.mono _ _ | exact LeO.none _ | refine LeO.ite ?_ ?_ | refine LeO.bind ?_ (fun _ => ?_)
set_option maxHeartbeats 8000000 in
set_option maxRecDepth 100000 in
theorem impl_RingSegments.calls (k : Nat) (A0 : Option Addr) (c0 : Nat) (l0 : List (S82)) (r : List (S85)) (w : World) (hr0 : Kd.C k82 w A0 l0.length l0) (hc0 : l0.length ≤ c0) (h : impl_RingSegments.f k l0 = some r) :
  Calls Try.prog 127 #[.slice A0 l0.length c0] w fun e w' => ∃ v0_ : Value, e = .returned (v0_) ∧ Kd.R k85 85 w' w.heap.size (fun _ => True) v0_ r ∧ Below w.heap.size w w' := by
 have HR0 := Aside0.mk hr0; have HC0 := Aside0.mk hc0; clear hr0 hc0; have HB := Aside0.mk (Below.refl w.heap.size w); have H : ((impl_IsRing.f k l0).bind fun t377 => (if t377 = true then ((impl_around.f k l0).bind fun t378 => (some t378)) else (some (([] : List (S85)))))) = some r := h; clear h; replace H := Option.bind_eq_some_iff.mp H; obtain ⟨t377, A20, H⟩ := H; have A2 := Aside0.mk A20; clear A20
 by_cases c3 : t377 = true
 ·subst c3; replace H := ift H; replace H := Option.bind_eq_some_iff.mp H; obtain ⟨t378, A40, H⟩ := H; have A4 := Aside0.mk A40; clear A40; obtain rfl := Option.some.inj H
  go_enter Try.func127, Try.ntmps127; go_wp2_with (first | ((with_reducible refine gt (some 4) rfl ?_); refine gc Try.func114 (impl_IsRing.calls k _ _ l0 true _ (cz HR0.out) HC0.out A2.out) ?_; rintro e w5 ⟨rfl, hb⟩; refine ⟨_, rfl, ?_⟩; replace HB := Aside0.mk (below_step bz hb); (try clear hb)) | ((with_reducible refine gt (some 8) rfl ?_); refine gc Try.func150 (impl_around.calls k _ _ l0 t378 _ cz0 HC0.out A4.out) ?_; rintro e w6 ⟨v379, rfl, ho0, hb⟩; refine ⟨_, rfl, ?_⟩; have HO380 := Aside0.mk (Kd.R_lower ho0 (below_size bz)); replace HB := Aside0.mk (below_step bz hb); (try clear hb); (try clear ho0))); go_ret
  exact ⟨_, ez, hr HO380.out, bz⟩
 ·replace c3 := Bool.eq_false_iff.mpr c3; subst c3; replace H := iff_ H; obtain ⟨y381, hy381⟩ : ∃ y_ : List (S85), y_ = (([] : List (S85))) := ⟨_, rfl⟩
  replace H : (some y381) = some r := by first | (rw [hy381]; with_reducible exact H) | (have H2_ := (Option.bind_some _ _).symm.trans H; rw [hy381]; with_reducible exact H2_) | (have H2_ := (Option.bind_some _ _).symm.trans H; with_reducible exact H2_) | with_reducible exact H | (rw [hy381]; exact H) | exact H
  have Ny381 := Aside0.mk hy381; clear hy381; obtain rfl := Option.some.inj H
  go_enter Try.func127, Try.ntmps127; go_wp2_with (first | ((with_reducible refine gt (some 4) rfl ?_); refine gc Try.func114 (impl_IsRing.calls k _ _ l0 false _ (cz HR0.out) HC0.out A2.out) ?_; rintro e w7 ⟨rfl, hb⟩; refine ⟨_, rfl, ?_⟩; replace HB := Aside0.mk (below_step bz hb); (try clear hb)) | ((with_reducible refine gate_dst (N := 6) rfl ?_); refine Kd.R_lit k85 _ 85 ?hg (N := 6) ?hd (xs := ([] : List (S85))) (inner := []) (ok := fun _ => True) (okp := fun _ => True) ?hr ?hp (fun _ hk => hk) trivial (Below.refl _ _) (Nat.le_refl _) (by simp) ?_; (case hd => rfl); (case hg => rfl); (case hr => first | (go_simp; done) | (go_simp; rfl)); (case hp => exact (Reps.none _ _)); intro v382 w8 ho9 hb hg_ hnew_; clear hg_ hnew_; (first | rw [← Ny381.out] at ho9 | (simp only [Int.reduceToNat] at ho9; rw [← Ny381.out] at ho9)); have HO383 := Aside0.mk (Kd.R_lower ho9 (below_size bz)); replace HB := Aside0.mk (below_step bz hb); clear hb ho9)); go_ret
  exact ⟨_, ez, hr HO383.out, bz⟩

/-! ### impl_PartsOf: function 74 -/
def impl_PartsOf.f (k : Nat) (a0_0 : Int) (a0_1 : Int) (a0_2 : Int) (a0_3 : ByteArray) (l0_4 : List (S82)) : Option ((List (S85))) := (impl_IsFeature.f k a0_0 a0_1 a0_2 a0_3 l0_4).bind fun t385 => (if t385 = true then (if a0_1 = 2 then ((impl_SegmentsOf.f k l0_4).bind fun t386 => (some t386)) else (if a0_1 = 3 then ((impl_RingSegments.f k l0_4).bind fun t389 => (some t389)) else (some (([] : List (S85)))))) else (some (([] : List (S85)))))
theorem impl_PartsOf.mono : ∀ a0 a1 a2 a3 a4 k, LeO (impl_PartsOf.f k a0 a1 a2 a3 a4) (impl_PartsOf.f (k + 1) a0 a1 a2 a3 a4) := by
 intro a0 a1 a2 a3 a4 k
 unfold impl_PartsOf.f
 repeat' first | (with_reducible first | exact impl_IsFeature.mono _ _ _ _ _ _ | exact impl_RingSegments.mono _ _ | exact impl_SegmentsOf.mono _ _ | exact LeO.refl _ | exact LeO.none _ | refine LeO.ite ?_ ?_ | refine LeO.bind ?_ (fun _ => ?_)) | exact impl_IsFeature.mono _ _ _ _ _ _ | exact impl_RingSegments.mono _ _ | exact impl_SegmentsOf.mono _ _ | exact LeO.none _ | refine LeO.ite ?_ ?_ | refine LeO.bind ?_ (fun _ => ?_)
set_option maxHeartbeats 8000000 in
set_option maxRecDepth 100000 in
theorem impl_PartsOf.calls (k : Nat) (a0_0 : Int) (a0_1 : Int) (a0_2 : Int) (a0_3 : ByteArray) (A0_4 : Option Addr) (c0_4 : Nat) (l0_4 : List (S82)) (r : List (S85)) (w : World) (hr0_4 : Kd.C k82 w A0_4 l0_4.length l0_4) (hc0_4 : l0_4.length ≤ c0_4) (h : impl_PartsOf.f k a0_0 a0_1 a0_2 a0_3 l0_4 = some r) :
  Calls Try.prog 74 #[.agg #[.int .i64 a0_0, .int .i64 a0_1, .int .i64 a0_2, .string a0_3, .slice A0_4 l0_4.length c0_4]] w fun e w' => ∃ v0_ : Value, e = .returned (v0_) ∧ Kd.R k85 85 w' w.heap.size (fun _ => True) v0_ r ∧ Below w.heap.size w w' := by
 have hu29 := Try.underlying29; have HR0_4 := Aside0.mk hr0_4; have HC0_4 := Aside0.mk hc0_4; clear hr0_4 hc0_4; have HB := Aside0.mk (Below.refl w.heap.size w); have H : ((impl_IsFeature.f k a0_0 a0_1 a0_2 a0_3 l0_4).bind fun t385 => (if t385 = true then (if a0_1 = 2 then ((impl_SegmentsOf.f k l0_4).bind fun t386 => (some t386)) else (if a0_1 = 3 then ((impl_RingSegments.f k l0_4).bind fun t389 => (some t389)) else (some (([] : List (S85)))))) else (some (([] : List (S85)))))) = some r := h; clear h; replace H := Option.bind_eq_some_iff.mp H; obtain ⟨t385, A20, H⟩ := H; have A2 := Aside0.mk A20; clear A20
 by_cases c3 : t385 = true
 ·subst c3; replace H := ift H
  by_cases c4 : a0_1 = 2
  ·rw [if_pos c4] at H; have c4b0 : (a0_1 == 2) = true := beq_iff_eq.mpr c4; have c4b1 : (a0_1 != 2) = false := bne_eq_false_iff_eq.mpr c4; clear c4; replace H := Option.bind_eq_some_iff.mp H; obtain ⟨t386, A50, H⟩ := H; have A5 := Aside0.mk A50; clear A50; obtain rfl := Option.some.inj H
   go_enter Try.func74, Try.ntmps74; go_wp2_with (first | ((with_reducible refine gt (some 1) rfl ?_); refine bx #[.int .i64 a0_0, .int .i64 a0_1, .int .i64 a0_2, .string a0_3, .slice A0_4 l0_4.length c0_4] 29 ?_; intro gb384 hg w6 hbox hb; have BK384 := Aside0.mk (hbox); have GW384 := Aside0.mk (gez HB hg); have GE384 := Aside0.mk (gez HB hg); replace HB := Aside0.mk (below_step bz hb); clear hb hbox hg; obtain ⟨hcz7_0, hcz7_1, hcz7_2, hcz7_3, hcz7_4, hfz7_0, hfz7_1, hfz7_2, hfz7_3, hfz7_4⟩ := cells5 BK384) | ((with_reducible refine gt (some 4) rfl ?_); refine gc Try.func72 (impl_IsFeature.calls k a0_0 a0_1 a0_2 a0_3 _ _ l0_4 true _ (cz (Kd.C_below HR0_4.out HB.out)) HC0_4.out A2.out) ?_; rintro e w8 ⟨rfl, hb⟩; refine ⟨_, rfl, ?_⟩; replace BK384 := Aside0.mk (bbz BK384 hb); replace HB := Aside0.mk (below_step bzs hb); (try clear hb); obtain ⟨hcz9_0, hcz9_1, hcz9_2, hcz9_3, hcz9_4, hfz9_0, hfz9_1, hfz9_2, hfz9_3, hfz9_4⟩ := cells5 BK384) | ((with_reducible refine gt (some 11) rfl ?_); refine gc Try.func126 (impl_SegmentsOf.calls k _ _ l0_4 t386 _ (cz (Kd.C_below HR0_4.out HB.out)) HC0_4.out A5.out) ?_; rintro e w10 ⟨v387, rfl, ho0, hb⟩; refine ⟨_, rfl, ?_⟩; have HO388 := Aside0.mk (Kd.R_lower ho0 (below_size bzs)); replace BK384 := Aside0.mk (bbz BK384 hb); replace HB := Aside0.mk (below_step bzs hb); (try clear hb); (try clear ho0))); go_ret
   exact ⟨_, ez, hr HO388.out, bzs⟩
  ·rw [if_neg c4] at H; have c4b0 : (a0_1 == 2) = false := beq_eq_false_iff_ne.mpr c4; have c4b1 : (a0_1 != 2) = true := bne_iff_ne.mpr c4
   by_cases c11 : a0_1 = 3
   ·rw [if_pos c11] at H; have c11b0 : (a0_1 == 3) = true := beq_iff_eq.mpr c11; have c11b1 : (a0_1 != 3) = false := bne_eq_false_iff_eq.mpr c11; clear c11; replace H := Option.bind_eq_some_iff.mp H; obtain ⟨t389, A120, H⟩ := H; have A12 := Aside0.mk A120; clear A120; obtain rfl := Option.some.inj H
    go_enter Try.func74, Try.ntmps74; go_wp2_with (first | ((with_reducible refine gt (some 1) rfl ?_); refine bx #[.int .i64 a0_0, .int .i64 a0_1, .int .i64 a0_2, .string a0_3, .slice A0_4 l0_4.length c0_4] 29 ?_; intro gb384 hg w13 hbox hb; have BK384 := Aside0.mk (hbox); have GW384 := Aside0.mk (gez HB hg); have GE384 := Aside0.mk (gez HB hg); replace HB := Aside0.mk (below_step bz hb); clear hb hbox hg; obtain ⟨hcz14_0, hcz14_1, hcz14_2, hcz14_3, hcz14_4, hfz14_0, hfz14_1, hfz14_2, hfz14_3, hfz14_4⟩ := cells5 BK384) | ((with_reducible refine gt (some 4) rfl ?_); refine gc Try.func72 (impl_IsFeature.calls k a0_0 a0_1 a0_2 a0_3 _ _ l0_4 true _ (cz (Kd.C_below HR0_4.out HB.out)) HC0_4.out A2.out) ?_; rintro e w15 ⟨rfl, hb⟩; refine ⟨_, rfl, ?_⟩; replace BK384 := Aside0.mk (bbz BK384 hb); replace HB := Aside0.mk (below_step bzs hb); (try clear hb); obtain ⟨hcz16_0, hcz16_1, hcz16_2, hcz16_3, hcz16_4, hfz16_0, hfz16_1, hfz16_2, hfz16_3, hfz16_4⟩ := cells5 BK384) | ((with_reducible refine gt (some 16) rfl ?_); refine gc Try.func127 (impl_RingSegments.calls k _ _ l0_4 t389 _ (cz (Kd.C_below HR0_4.out HB.out)) HC0_4.out A12.out) ?_; rintro e w17 ⟨v390, rfl, ho0, hb⟩; refine ⟨_, rfl, ?_⟩; have HO391 := Aside0.mk (Kd.R_lower ho0 (below_size bzs)); replace BK384 := Aside0.mk (bbz BK384 hb); replace HB := Aside0.mk (below_step bzs hb); (try clear hb); (try clear ho0))); go_ret
    exact ⟨_, ez, hr HO391.out, bzs⟩
   ·rw [if_neg c11] at H; have c11b0 : (a0_1 == 3) = false := beq_eq_false_iff_ne.mpr c11; have c11b1 : (a0_1 != 3) = true := bne_iff_ne.mpr c11; obtain ⟨y392, hy392⟩ : ∃ y_ : List (S85), y_ = (([] : List (S85))) := ⟨_, rfl⟩
    replace H : (some y392) = some r := by first | (rw [hy392]; with_reducible exact H) | (have H2_ := (Option.bind_some _ _).symm.trans H; rw [hy392]; with_reducible exact H2_) | (have H2_ := (Option.bind_some _ _).symm.trans H; with_reducible exact H2_) | with_reducible exact H | (rw [hy392]; exact H) | exact H
    have Ny392 := Aside0.mk hy392; clear hy392; obtain rfl := Option.some.inj H
    go_enter Try.func74, Try.ntmps74; go_wp2_with (first | ((with_reducible refine gt (some 1) rfl ?_); refine bx #[.int .i64 a0_0, .int .i64 a0_1, .int .i64 a0_2, .string a0_3, .slice A0_4 l0_4.length c0_4] 29 ?_; intro gb384 hg w18 hbox hb; have BK384 := Aside0.mk (hbox); have GW384 := Aside0.mk (gez HB hg); have GE384 := Aside0.mk (gez HB hg); replace HB := Aside0.mk (below_step bz hb); clear hb hbox hg; obtain ⟨hcz19_0, hcz19_1, hcz19_2, hcz19_3, hcz19_4, hfz19_0, hfz19_1, hfz19_2, hfz19_3, hfz19_4⟩ := cells5 BK384) | ((with_reducible refine gt (some 4) rfl ?_); refine gc Try.func72 (impl_IsFeature.calls k a0_0 a0_1 a0_2 a0_3 _ _ l0_4 true _ (cz (Kd.C_below HR0_4.out HB.out)) HC0_4.out A2.out) ?_; rintro e w20 ⟨rfl, hb⟩; refine ⟨_, rfl, ?_⟩; replace BK384 := Aside0.mk (bbz BK384 hb); replace HB := Aside0.mk (below_step bzs hb); (try clear hb); obtain ⟨hcz21_0, hcz21_1, hcz21_2, hcz21_3, hcz21_4, hfz21_0, hfz21_1, hfz21_2, hfz21_3, hfz21_4⟩ := cells5 BK384) | ((with_reducible refine gate_dst (N := 17) rfl ?_); refine Kd.R_lit k85 _ 85 ?hg (N := 17) ?hd (xs := ([] : List (S85))) (inner := []) (ok := fun _ => True) (okp := fun _ => True) ?hr ?hp (fun _ hk => hk) trivial (Below.refl _ _) (Nat.le_refl _) (by simp) ?_; (case hd => rfl); (case hg => rfl); (case hr => first | (go_simp; done) | (go_simp; rfl)); (case hp => exact (Reps.none _ _)); intro v393 w22 ho23 hb hg_ hnew_; clear hg_ hnew_; (first | rw [← Ny392.out] at ho23 | (simp only [Int.reduceToNat] at ho23; rw [← Ny392.out] at ho23)); have HO394 := Aside0.mk (Kd.R_lower ho23 (below_size bzs)); replace BK384 := Aside0.mk (bbz BK384 hb); replace HB := Aside0.mk (below_step bzs hb); clear hb ho23))
    go_ret
    exact ⟨_, ez, hr HO394.out, bzs⟩
 ·replace c3 := Bool.eq_false_iff.mpr c3; subst c3; replace H := iff_ H; obtain ⟨y395, hy395⟩ : ∃ y_ : List (S85), y_ = (([] : List (S85))) := ⟨_, rfl⟩
  replace H : (some y395) = some r := by first | (rw [hy395]; with_reducible exact H) | (have H2_ := (Option.bind_some _ _).symm.trans H; rw [hy395]; with_reducible exact H2_) | (have H2_ := (Option.bind_some _ _).symm.trans H; with_reducible exact H2_) | with_reducible exact H | (rw [hy395]; exact H) | exact H
  have Ny395 := Aside0.mk hy395; clear hy395; obtain rfl := Option.some.inj H
  go_enter Try.func74, Try.ntmps74; go_wp2_with (first | ((with_reducible refine gt (some 1) rfl ?_); refine bx #[.int .i64 a0_0, .int .i64 a0_1, .int .i64 a0_2, .string a0_3, .slice A0_4 l0_4.length c0_4] 29 ?_; intro gb384 hg w24 hbox hb; have BK384 := Aside0.mk (hbox); have GW384 := Aside0.mk (gez HB hg); have GE384 := Aside0.mk (gez HB hg); replace HB := Aside0.mk (below_step bz hb); clear hb hbox hg; obtain ⟨hcz25_0, hcz25_1, hcz25_2, hcz25_3, hcz25_4, hfz25_0, hfz25_1, hfz25_2, hfz25_3, hfz25_4⟩ := cells5 BK384) | ((with_reducible refine gt (some 4) rfl ?_); refine gc Try.func72 (impl_IsFeature.calls k a0_0 a0_1 a0_2 a0_3 _ _ l0_4 false _ (cz (Kd.C_below HR0_4.out HB.out)) HC0_4.out A2.out) ?_; rintro e w26 ⟨rfl, hb⟩; refine ⟨_, rfl, ?_⟩; replace BK384 := Aside0.mk (bbz BK384 hb); replace HB := Aside0.mk (below_step bzs hb); (try clear hb)) | ((with_reducible refine gate_dst (N := 17) rfl ?_); refine Kd.R_lit k85 _ 85 ?hg (N := 17) ?hd (xs := ([] : List (S85))) (inner := []) (ok := fun _ => True) (okp := fun _ => True) ?hr ?hp (fun _ hk => hk) trivial (Below.refl _ _) (Nat.le_refl _) (by simp) ?_; (case hd => rfl); (case hg => rfl); (case hr => first | (go_simp; done) | (go_simp; rfl)); (case hp => exact (Reps.none _ _)); intro v396 w27 ho28 hb hg_ hnew_; clear hg_ hnew_; (first | rw [← Ny395.out] at ho28 | (simp only [Int.reduceToNat] at ho28; rw [← Ny395.out] at ho28)); have HO397 := Aside0.mk (Kd.R_lower ho28 (below_size bzs)); replace BK384 := Aside0.mk (bbz BK384 hb); replace HB := Aside0.mk (below_step bzs hb); clear hb ho28))
  go_ret
  exact ⟨_, ez, hr HO397.out, bzs⟩

end Go.Proofs.Ytdfehjfmihokpaa.PFnExactPieceDigest
