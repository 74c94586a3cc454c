-- Written by a program of this session's (evlaw.py).
import Derived.Test.YtdfehjfmihokpaaPFnExactAnchorsOfx2
namespace Go.Proofs.Ytdfehjfmihokpaa.PFnExactAnchorsOf
open Go.RowKit Go.Proofs.YtdfehjfmihokpaaW.PrintWords Go.Proofs.YtdfehjfmihokpaaW.PrintLast Go.Proofs.YtdfehjfmihokpaaW.PrintMore Go.Proofs.YtdfehjfmihokpaaGeo Go.Proofs.YtdfehjfmihokpaaHand Go.Proofs.YtdfehjfmihokpaaMeet Go.Proofs.YtdfehjfmihokpaaQuiet Go.Proofs.YtdfehjfmihokpaaZ
open Go Go.Proofs.YtdfehjfmihokpaaEv
attribute [local go_sem] max2_int min2_int max_two min_two max_three min_three max_four min_four   -- for this text's walks alone
set_option linter.unusedVariables false
set_option linter.unusedSimpArgs false



set_option linter.unusedSimpArgs false

attribute [local go_sem high] eqA82
set_option linter.unusedVariables false
set_option linter.unusedSimpArgs false
set_option maxRecDepth 100000
noncomputable section
theorem impl_forward.ef (k : Nat) (h0 : S85) : impl_forward.run k (h0, ()) = impl_BeforePoint.ap k (⟨h0.f1.f0, h0.f1.f1⟩ : S82) (⟨h0.f0.f0, h0.f0.f1⟩ : S82) fun r1 => if r1 = true then (impl_TurnSegment.ap k (⟨(⟨h0.f0.f0, h0.f0.f1⟩ : S82), (⟨h0.f1.f0, h0.f1.f1⟩ : S82)⟩ : S85) fun r2 => impl_forward.ret (⟨(⟨r2.f0.f0, r2.f0.f1⟩ : S82), (⟨r2.f1.f0, r2.f1.f1⟩ : S82)⟩ : S85)) else (impl_forward.ret (⟨(⟨h0.f0.f0, h0.f0.f1⟩ : S82), (⟨h0.f1.f0, h0.f1.f1⟩ : S82)⟩ : S85)) := by kernel_rfl
def impl_forward.toH (t : Int × Int × Int × Int) : HL eΓ [.st .s85] := ((⟨(⟨t.1, t.2.1⟩ : S82), (⟨t.2.2.1, t.2.2.2⟩ : S82)⟩ : S85), ())
def impl_forward.spec : Spc env := ⟨169, [.st .s85], [.st .s85], impl_forward.run⟩
theorem impl_forward.snd : Snd env impl_forward.spec := evF_snd env_ok (sndC impl_BeforePoint.snd (sndC impl_TurnSegment.snd (sndN))) (by kernel_rfl) (by kernel_rfl) (by kernel_rfl)
attribute [local irreducible] impl_forward.run
theorem impl_forward.rt (a0 : Int) (a1 : Int) (a2 : Int) (a3 : Int) : impl_forward.ret (⟨(⟨a0, a1⟩ : S82), (⟨a2, a3⟩ : S82)⟩ : S85) = some (impl_forward.toH (a0, a1, a2, a3)) := rfl
theorem impl_forward.go {a0_0 : Int} {a0_1 : Int} {a0_2 : Int} {a0_3 : Int} {t} (h : impl_forward.f a0_0 a0_1 a0_2 a0_3 = some t) (K : Nat) : impl_forward.run K ((⟨(⟨a0_0, a0_1⟩ : S82), (⟨a0_2, a0_3⟩ : S82)⟩ : S85), ()) = some (impl_forward.toH t) := by
  rw [impl_forward.ef]
  (try dsimp only)
  (try simp only [tq_nat])
  (try simp only [tq_eq])
  unfold impl_forward.f at h
  repeat' (with_reducible first
   | exact nos h
   | (cases some_inj h; exact impl_forward.rt _ _ _ _)
   | (simp only [Option.bind_some] at h)
   | (refine ite_by h (fun hc h => ?_) (fun hc h => ?_) <;> (try simp only [nrm] at hc))
   | refine itT ?_ (by first | assumption | omega | (simp only [nrm]; first | done | assumption | omega) | (simp only [nln] at hc ⊢; omega))
   | refine itF ?_ (by first | assumption | omega | (simp only [nrm]; first | done | assumption | omega) | (simp only [nln] at hc ⊢; omega))
   | (refine bind_by h (fun t ht h => ?_); (first | refine (impl_BeforePoint.ap_of (impl_BeforePoint.go ht _)).trans ?_ | refine (impl_TurnSegment.ap_of (impl_TurnSegment.go ht _)).trans ?_); (try dsimp only at h ⊢))
   | (simp only [decide_not, Bool.decide_and, decide_true, Bool.and_true, Bool.not_and, beqI, Int.toNat_natCast, List.take_length] at h ⊢)
   | (exfalso; omega))
theorem impl_forward.calls (a0_0 : Int) (a0_1 : Int) (a0_2 : Int) (a0_3 : Int) (r1 : Int) (r2 : Int) (r3 : Int) (r4 : Int) (w : World) (h : impl_forward.f a0_0 a0_1 a0_2 a0_3 = some (r1, r2, r3, r4)) :
  Calls Try.prog 169 #[.agg #[.int .i64 a0_0, .int .i64 a0_1, .int .i64 a0_2, .int .i64 a0_3]] w fun e w' => e = .returned (.agg #[.int .i64 r1, .int .i64 r2, .int .i64 r3, .int .i64 r4]) ∧ Below w.heap.size w w' := by
  refine (impl_forward.snd.calls _ _ _ (impl_forward.go h 0) w [.agg #[.int .i64 a0_0, .int .i64 a0_1, .int .i64 a0_2, .int .i64 a0_3]] ⟨⟨_, rfl, (H85.K _ _ _).2 ⟨rfl, rfl, rfl, rfl, trivial⟩⟩, trivial⟩).mono ?_
  rintro e w' ⟨v, rfl, hB, vs, oks, rfl, hR, _⟩
  obtain ⟨x0_, vs, o0_, oks, rfl, rfl, m0_, hR⟩ := rmsC hR
  obtain rfl := rmsN hR
  obtain ⟨y0, rfl, m0_⟩ := m0_
  have m0_ := (H85.M _ _ _ _ _).1 m0_
  match e0 : y0.toList, m0_ with
  | [d0_0, d0_1, d0_2, d0_3], ⟨n0_0, n0_1, n0_2, n0_3, _⟩ =>
  obtain rfl : y0 = #[d0_0, d0_1, d0_2, d0_3] := by rw [← Array.toArray_toList (xs := y0), e0]
  obtain rfl := List.singleton_inj.1 (show [d0_0] = [Value.int .i64 r1] from n0_0)
  obtain rfl := List.singleton_inj.1 (show [d0_1] = [Value.int .i64 r2] from n0_1)
  obtain rfl := List.singleton_inj.1 (show [d0_2] = [Value.int .i64 r3] from n0_2)
  obtain rfl := List.singleton_inj.1 (show [d0_3] = [Value.int .i64 r4] from n0_3)
  exact ⟨rfl, hB⟩
set_option maxHeartbeats 8000000 in
set_option maxRecDepth 100000 in
theorem impl_HowMeet.calls (k : Nat) (a0_0 : Int) (a0_1 : Int) (a0_2 : Int) (a0_3 : Int) (a1_0 : Int) (a1_1 : Int) (a1_2 : Int) (a1_3 : Int) (r : Int) (w : World) (h : impl_HowMeet.f k a0_0 a0_1 a0_2 a0_3 a1_0 a1_1 a1_2 a1_3 = some r) :
  Calls Try.prog 152 #[.agg #[.int .i64 a0_0, .int .i64 a0_1, .int .i64 a0_2, .int .i64 a0_3], .agg #[.int .i64 a1_0, .int .i64 a1_1, .int .i64 a1_2, .int .i64 a1_3]] w fun e w' => e = .returned (.int .i64 r) ∧ Below w.heap.size w w' := by
 have hu85 := Try.underlying85; have hu82 := Try.underlying82; have HB := Aside0.mk (Below.refl w.heap.size w); have H : ((impl_IsSegment.f a0_0 a0_1 a0_2 a0_3).bind fun t252 => (if t252 = true then ((impl_IsSegment.f a1_0 a1_1 a1_2 a1_3).bind fun t253 => (impl_HowMeet.j0 k (!t253) a0_0 a0_1 a0_2 a0_3 a1_0 a1_1 a1_2 a1_3)) else (impl_HowMeet.j0 k true a0_0 a0_1 a0_2 a0_3 a1_0 a1_1 a1_2 a1_3))) = some r := h; clear h; have HC3 := Aside0.mk H; clear H
 go_enter Try.func152, Try.ntmps152
 go_upto_region 1 with (first | ((with_reducible refine gt (some 2) rfl ?_); refine bx #[.int .i64 a0_0, .int .i64 a0_1, .int .i64 a0_2, .int .i64 a0_3] 85 ?_; intro gb250 hg w4 hbox hb; have BK250 := Aside0.mk (hbox); have GW250 := Aside0.mk (gez HB hg); have GE250 := Aside0.mk (gez HB hg); replace HB := Aside0.mk (below_step bz hb); clear hb hbox hg) | ((with_reducible refine gt (some 3) rfl ?_); refine bx #[.int .i64 a1_0, .int .i64 a1_1, .int .i64 a1_2, .int .i64 a1_3] 85 ?_; intro gb251 hg w5 hbox hb; have BK251 := Aside0.mk (hbox); have GW251 := Aside0.mk (gez HB hg); have GE251 := Aside0.mk (gez HB hg); replace HB := Aside0.mk (below_step bzs hb); have NB250_251 := Aside0.mk ((by rw [hg]; exact Nat.ne_of_lt (blk_lt (g := gb250) (o := .cells #[.int .i64 a0_0, .int .i64 a0_1, .int .i64 a0_2, .int .i64 a0_3] 85 (0, 0)) (kz BK250)) : gb250 ≠ gb251)); have NB251_250 := Aside0.mk ((by rw [hg]; exact Nat.ne_of_gt (blk_lt (g := gb250) (o := .cells #[.int .i64 a0_0, .int .i64 a0_1, .int .i64 a0_2, .int .i64 a0_3] 85 (0, 0)) (kz BK250)) : gb251 ≠ gb250)); replace BK250 := Aside0.mk (bbz BK250 hb); clear hb hbox hg))
 (try simp only [Act.put, List.setIfInBounds_toArray, List.set_cons_zero, List.set_cons_succ])
 go_cut [16] (fun v16 wc => ∃ (kq : Nat) (x16_2 : Bool), v16 = .bool x16_2 ∧ Aside0 (impl_HowMeet.j0 kq x16_2 a0_0 a0_1 a0_2 a0_3 a1_0 a1_1 a1_2 a1_3 = some r) ∧ Aside0 (kq ≤ k) ∧ Aside0 (wc.heap[gb250]? = some (.cells #[.int .i64 a0_0, .int .i64 a0_1, .int .i64 a0_2, .int .i64 a0_3] 85 (0, 0))) ∧ Aside0 (wc.heap[gb251]? = some (.cells #[.int .i64 a1_0, .int .i64 a1_1, .int .i64 a1_2, .int .i64 a1_3] 85 (0, 0))) ∧ Aside0 (Below w.heap.size w wc))
 case first =>
  have H := HC3.out; clear HC3; replace H := Option.bind_eq_some_iff.mp H; obtain ⟨t252, A60, H⟩ := H; have A6 := Aside0.mk A60; clear A60
  by_cases c7 : t252 = true
  ·subst c7; replace H := ift H; replace H := Option.bind_eq_some_iff.mp H; obtain ⟨t253, A80, H⟩ := H; have A8 := Aside0.mk A80; clear A80; have H' := Aside0.mk H; clear H; have hnb9 := NB250_251.out; have hnc9 := NB251_250.out; obtain ⟨hcz10_0, hcz10_1, hcz10_2, hcz10_3, hfz10_0, hfz10_1, hfz10_2, hfz10_3⟩ := cells4 BK250; go_wp2_with (first | ((with_reducible refine gt (some 10) rfl ?_); refine gc Try.func151 (impl_IsSegment.calls a0_0 a0_1 a0_2 a0_3 true _ A6.out) ?_; rintro e w11 ⟨rfl, hb⟩; refine ⟨_, rfl, ?_⟩; replace BK250 := Aside0.mk (bbz BK250 hb); replace BK251 := Aside0.mk (bbz BK251 hb); replace HB := Aside0.mk (below_step bzs hb); (try clear hb); obtain ⟨hcz12_0, hcz12_1, hcz12_2, hcz12_3, hfz12_0, hfz12_1, hfz12_2, hfz12_3⟩ := cells4 BK251) | (go_at_call 151; (with_reducible refine (impl_IsSegment.calls a1_0 a1_1 a1_2 a1_3 t253 _ A8.out).mono ?_); rintro e w13 ⟨rfl, hb⟩; replace BK250 := Aside0.mk (bbz BK250 hb); replace BK251 := Aside0.mk (bbz BK251 hb); replace HB := Aside0.mk (below_step bzs hb); (try clear hb)))
   go_meet
   case rel => exact ⟨_, (!t253), rz, H', ⟨qz⟩, ⟨kz BK250⟩, ⟨kz BK251⟩, ⟨bzs⟩⟩
  ·replace c7 := Bool.eq_false_iff.mpr c7; subst c7; replace H := iff_ H; have H' := Aside0.mk H; clear H; have hnb14 := NB250_251.out; have hnc14 := NB251_250.out; obtain ⟨hcz15_0, hcz15_1, hcz15_2, hcz15_3, hfz15_0, hfz15_1, hfz15_2, hfz15_3⟩ := cells4 BK250; go_wp2_with (first | ((with_reducible refine gt (some 10) rfl ?_); refine gc Try.func151 (impl_IsSegment.calls a0_0 a0_1 a0_2 a0_3 false _ A6.out) ?_; rintro e w16 ⟨rfl, hb⟩; refine ⟨_, rfl, ?_⟩; replace BK250 := Aside0.mk (bbz BK250 hb); replace BK251 := Aside0.mk (bbz BK251 hb); replace HB := Aside0.mk (below_step bzs hb); (try clear hb)))
   go_meet
   case rel => exact ⟨_, (true), rz, H', ⟨qz⟩, ⟨kz BK250⟩, ⟨kz BK251⟩, ⟨bzs⟩⟩
 case rest =>
  clear HC3; (try clear c1); (try clear p2); (try clear c7); (try clear c9); (try clear c14); (try clear c15); (try clear hcz10_0); (try clear hcz10_1); (try clear hcz10_2); (try clear hcz10_3); (try clear hcz12_0); (try clear hcz12_1); (try clear hcz12_2); (try clear hcz12_3); (try clear hcz15_0); (try clear hcz15_1); (try clear hcz15_2); (try clear hcz15_3); (try clear hfz10_0); (try clear hfz10_1); (try clear hfz10_2); (try clear hfz10_3); (try clear hfz12_0); (try clear hfz12_1); (try clear hfz12_2); (try clear hfz12_3); (try clear hfz15_0); (try clear hfz15_1); (try clear hfz15_2); (try clear hfz15_3); obtain ⟨kq, x16_2, rfl, HA, HJ2, BK250, BK251, HB⟩ := hcut
  cases kq with
  | zero => exact absurd HA.out (by simp [impl_HowMeet.j0])
  | succ kj2 =>
   have H := HA.out; clear HA; simp only [impl_HowMeet.j0] at H
   by_cases c17 : x16_2 = true
   ·subst c17; replace H := ift H; obtain rfl := Option.some.inj H; go_wp2; go_ret
    exact ⟨ez, bzs⟩
   ·replace c17 := Bool.eq_false_iff.mpr c17; subst c17; replace H := iff_ H; replace H := Option.bind_eq_some_iff.mp H; obtain ⟨t254, A180, H⟩ := H; have A18 := Aside0.mk A180; clear A180; replace H := Option.bind_eq_some_iff.mp H; obtain ⟨t255, A190, H⟩ := H; have A19 := Aside0.mk A190; clear A190; have HC20 := Aside0.mk H; clear H; (try go_wp2); replace BK250 := Aside0.mk (blk_drew BK250.out); replace BK251 := Aside0.mk (blk_drew BK251.out); replace HB := Aside0.mk (below_drew1 HB.out); refine start_ (n := 16) (S := fun w' => w'.cell? ⟨gb250, 0, none⟩ = some (.int .i64 a0_0) ∧ w'.cell? ⟨gb250, 1, none⟩ = some (.int .i64 a0_1) ∧ w'.cell? ⟨gb250, 2, none⟩ = some (.int .i64 a0_2) ∧ w'.cell? ⟨gb250, 3, none⟩ = some (.int .i64 a0_3) ∧ w'.cell? ⟨gb251, 0, none⟩ = some (.int .i64 a1_0) ∧ w'.cell? ⟨gb251, 1, none⟩ = some (.int .i64 a1_1) ∧ w'.cell? ⟨gb251, 2, none⟩ = some (.int .i64 a1_2) ∧ w'.cell? ⟨gb251, 3, none⟩ = some (.int .i64 a1_3)) (ds := []) #[F,F,F,F,F,F,F,F,F,F,F,F,F,F,F,F] (by kernel_rfl) rfl rfl ⟨bc BK250 0, bc BK250 1, bc BK250 2, bc BK250 3, bc BK251 0, bc BK251 1, bc BK251 2, bc BK251 3⟩ (fun hHeld => ?_); refine with_tabW impl_HowMeet.tab3 impl_HowMeet.bits3 (fun HT_ HW_ => ?_); generalize wc.drew = w21 at BK250 BK251 HB hHeld ⊢; refine pz HT_ 0 17 ?_; refine pz HT_ 2 19 ?_; refine pz HT_ 4 21 ?_; refine pz HT_ 7 24 ?_; refine pz HT_ 9 26 ?_; refine pz HT_ 11 28 ?_; refine tz8 HT_ HW_ hHeld 1 18 ?_; refine tz8 HT_ HW_ hHeld 3 20 ?_; refine tz8 HT_ HW_ hHeld 5 22 ?_; refine tz8 HT_ HW_ hHeld 8 25 ?_; refine tz8 HT_ HW_ hHeld 10 27 ?_; refine tz8 HT_ HW_ hHeld 12 29 ?_
    refine oz HT_ 6 (some 23) (fun K hK => ?_); refine gz Try.func167 #[.agg #[.int .i64 a0_0, .int .i64 a0_1], .agg #[.int .i64 a0_2, .int .i64 a0_3], .agg #[.int .i64 a1_0, .int .i64 a1_1]] ?_
    with_reducible refine (impl_SideOf.calls a0_0 a0_1 a0_2 a0_3 a1_0 a1_1 t254 _ A18.out).mono ?_
    rintro e w22 ⟨rfl, hb⟩; refine ⟨_, rfl, ?_⟩; replace BK250 := Aside0.mk (bbz BK250 hb); replace BK251 := Aside0.mk (bbz BK251 hb); replace HB := Aside0.mk (below_step bzs hb); (try clear hb); (try clear hb2); (try clear hk); (try clear hi); refine hK.out _ _ ⟨bc BK250 0, bc BK250 1, bc BK250 2, bc BK250 3, bc BK251 0, bc BK251 1, bc BK251 2, bc BK251 3⟩ (fun hHeld => ?_); clear hK K; refine nz 23 ?_; refine oz HT_ 13 (some 30) (fun K hK => ?_); refine gz Try.func167 #[.agg #[.int .i64 a0_0, .int .i64 a0_1], .agg #[.int .i64 a0_2, .int .i64 a0_3], .agg #[.int .i64 a1_2, .int .i64 a1_3]] ?_
    with_reducible refine (impl_SideOf.calls a0_0 a0_1 a0_2 a0_3 a1_2 a1_3 t255 _ A19.out).mono ?_
    rintro e w23 ⟨rfl, hb⟩; refine ⟨_, rfl, ?_⟩; replace BK250 := Aside0.mk (bbz BK250 hb); replace BK251 := Aside0.mk (bbz BK251 hb); replace HB := Aside0.mk (below_step bzs hb); (try clear hb); (try clear hb2); (try clear hk); (try clear hi); refine hK.out _ _ ⟨bc BK250 0, bc BK250 1, bc BK250 2, bc BK250 3, bc BK251 0, bc BK251 1, bc BK251 2, bc BK251 3⟩ (fun hHeld => ?_); clear hK K; refine nz 30 ?_; refine pz HT_ 14 5 ?_; refine pz HT_ 15 6 ?_; refine dz HT_ ?_
    go_upto_region 4 with (fail)
    go_cut [36] (fun v36 wc => ∃ (kq : Nat) (x36_19 : Bool), v36 = .bool x36_19 ∧ Aside0 (impl_HowMeet.j1 kq t254 t255 x36_19 a0_0 a0_1 a0_2 a0_3 a1_0 a1_1 a1_2 a1_3 = some r) ∧ Aside0 (kq ≤ kj2) ∧ Aside0 (wc.heap[gb250]? = some (.cells #[.int .i64 a0_0, .int .i64 a0_1, .int .i64 a0_2, .int .i64 a0_3] 85 (0, 0))) ∧ Aside0 (wc.heap[gb251]? = some (.cells #[.int .i64 a1_0, .int .i64 a1_1, .int .i64 a1_2, .int .i64 a1_3] 85 (0, 0))) ∧ Aside0 (Below w.heap.size w wc))
    case first =>
     have H := HC20.out; clear HC20
     by_cases c24 : t254 = 0
     ·rw [if_pos c24] at H; have c24b0 : (t254 == 0) = true := beq_iff_eq.mpr c24; have c24b1 : (t254 != 0) = false := bne_eq_false_iff_eq.mpr c24; clear c24
      (first | rw [c24b0] | (simp only [i64_w, i32_w]; rw [c24b0]) | skip)
      have H' := Aside0.mk H; clear H; go_wp2
      go_meet
      case rel => exact ⟨_, ((t255 == 0)), rz, H', ⟨by have := HJ2.out; first | omega | exact Nat.le_refl _⟩, ⟨kz BK250⟩, ⟨kz BK251⟩, ⟨bzs⟩⟩
     ·rw [if_neg c24] at H; have c24b0 : (t254 == 0) = false := beq_eq_false_iff_ne.mpr c24; have c24b1 : (t254 != 0) = true := bne_iff_ne.mpr c24
      (first | rw [c24b0] | (simp only [i64_w, i32_w]; rw [c24b0]) | skip)
      have H' := Aside0.mk H; clear H; go_wp2
      go_meet
      case rel => exact ⟨_, (false), rz, H', ⟨by have := HJ2.out; first | omega | exact Nat.le_refl _⟩, ⟨kz BK250⟩, ⟨kz BK251⟩, ⟨bzs⟩⟩
    case rest =>
     clear HC20; (try clear c1); (try clear c2); (try clear p2); (try clear c7); (try clear c9); (try clear c14); (try clear c15); (try clear c16); (try clear c17); (try clear c24); (try clear c24b0); (try clear c24b1); (try clear hcz10_0); (try clear hcz10_1); (try clear hcz10_2); (try clear hcz10_3); (try clear hcz12_0); (try clear hcz12_1); (try clear hcz12_2); (try clear hcz12_3); (try clear hcz15_0); (try clear hcz15_1); (try clear hcz15_2); (try clear hcz15_3); (try clear hfz10_0); (try clear hfz10_1); (try clear hfz10_2); (try clear hfz10_3); (try clear hfz12_0); (try clear hfz12_1); (try clear hfz12_2); (try clear hfz12_3); (try clear hfz15_0); (try clear hfz15_1); (try clear hfz15_2); (try clear hfz15_3); (try clear p2); obtain ⟨kq, x36_19, rfl, HA, HJ19, BK250, BK251, HB⟩ := hcut
     cases kq with
     | zero => exact absurd HA.out (by simp [impl_HowMeet.j1])
     | succ kj19 =>
      have H := HA.out; clear HA; simp only [impl_HowMeet.j1] at H
      by_cases c25 : x36_19 = true
      ·subst c25; replace H := ift H; replace H := Option.bind_eq_some_iff.mp H; obtain ⟨⟨t256, t257, t258, t259⟩, A260, H⟩ := H; replace H : ((impl_forward.f a1_0 a1_1 a1_2 a1_3).bind fun bt260 => ((impl_BeforePoint.f t256 t257 bt260.1 bt260.2.1).bind fun t266 => (if t266 = true then (impl_HowMeet.j2 kj19 bt260.1 bt260.2.1 bt260.2.2.1 bt260.2.2.2 bt260.1 bt260.2.1 t258 t259) else (impl_HowMeet.j2 kj19 bt260.1 bt260.2.1 bt260.2.2.1 bt260.2.2.2 t256 t257 t258 t259)))) = some r := H; have A26 := Aside0.mk A260; clear A260; replace H := Option.bind_eq_some_iff.mp H; obtain ⟨⟨t260, t261, t262, t263⟩, A270, H⟩ := H; replace H : ((impl_BeforePoint.f t256 t257 t260 t261).bind fun t266 => (if t266 = true then (impl_HowMeet.j2 kj19 t260 t261 t262 t263 t260 t261 t258 t259) else (impl_HowMeet.j2 kj19 t260 t261 t262 t263 t256 t257 t258 t259))) = some r := H; have A27 := Aside0.mk A270; clear A270; replace H := Option.bind_eq_some_iff.mp H; obtain ⟨t266, A280, H⟩ := H; have A28 := Aside0.mk A280; clear A280; have HC29 := Aside0.mk H; clear H; (try go_wp2); replace BK250 := Aside0.mk (blk_drew BK250.out); replace BK251 := Aside0.mk (blk_drew BK251.out); replace HB := Aside0.mk (below_drew1 HB.out); refine start_ (n := 6) (S := fun w' => w'.cell? ⟨gb250, 0, none⟩ = some (.int .i64 a0_0) ∧ w'.cell? ⟨gb250, 1, none⟩ = some (.int .i64 a0_1) ∧ w'.cell? ⟨gb250, 2, none⟩ = some (.int .i64 a0_2) ∧ w'.cell? ⟨gb250, 3, none⟩ = some (.int .i64 a0_3) ∧ w'.cell? ⟨gb251, 0, none⟩ = some (.int .i64 a1_0) ∧ w'.cell? ⟨gb251, 1, none⟩ = some (.int .i64 a1_1) ∧ w'.cell? ⟨gb251, 2, none⟩ = some (.int .i64 a1_2) ∧ w'.cell? ⟨gb251, 3, none⟩ = some (.int .i64 a1_3)) (ds := [4, 5]) #[F,F,F,F,F,F] (by kernel_rfl) rfl rfl ⟨bc BK250 0, bc BK250 1, bc BK250 2, bc BK250 3, bc BK251 0, bc BK251 1, bc BK251 2, bc BK251 3⟩ (fun hHeld => ?_)
       generalize wc.drew = w30 at BK250 BK251 HB hHeld ⊢; refine take_ (i := 0) (N := some 37) (v := ?_) (a' := ?_) #[T,F,F,F,F,F] rfl rfl (by kernel_rfl) (fun _ _ _ h => h) (Or.inl ⟨by rfl, ?_⟩) hHeld ?_ ?_; rotate_left
       ·rintro w' ⟨s0, s1, s2, s3, s4, s5, s6, s7⟩; go_simp
        with_reducible rfl
       rotate_left
       ·simp only [Act.put, List.setIfInBounds_toArray, List.set_cons_zero, List.set_cons_succ, i64_w, i32_w]
        rfl
       refine take_ (i := 2) (N := some 39) (v := ?_) (a' := ?_) #[T,F,T,F,F,F] rfl rfl (by kernel_rfl) (fun _ _ _ h => h) (Or.inl ⟨by rfl, ?_⟩) hHeld ?_ ?_; rotate_left
       ·rintro w' ⟨s0, s1, s2, s3, s4, s5, s6, s7⟩; go_simp
        with_reducible rfl
       rotate_left
       ·simp only [Act.put, List.setIfInBounds_toArray, List.set_cons_zero, List.set_cons_succ, i64_w, i32_w]
        rfl
       refine one_ (i := 1) (N := some 38) #[T,T,T,F,F,F] rfl rfl (by kernel_rfl) (by decide) (fun K hK => ?_); refine gz Try.func169 #[.agg #[.int .i64 a0_0, .int .i64 a0_1, .int .i64 a0_2, .int .i64 a0_3]] ?_
       with_reducible refine (impl_forward.calls a0_0 a0_1 a0_2 a0_3 t256 t257 t258 t259 _ A26.out).mono ?_
       rintro e w31 ⟨rfl, hb⟩; refine ⟨_, rfl, ?_⟩; replace BK250 := Aside0.mk (bbz BK250 hb); replace BK251 := Aside0.mk (bbz BK251 hb); replace HB := Aside0.mk (below_step bzs hb); (try clear hb); (try clear hb2); (try clear hk); (try clear hi); refine hK.out _ _ ⟨bc BK250 0, bc BK250 1, bc BK250 2, bc BK250 3, bc BK251 0, bc BK251 1, bc BK251 2, bc BK251 3⟩ (fun hHeld => ?_); clear hK K; refine nz 38 ?_; refine one_ (i := 3) (N := some 40) #[T,T,T,T,F,F] rfl rfl (by kernel_rfl) (by decide) (fun K hK => ?_); refine gz Try.func169 #[.agg #[.int .i64 a1_0, .int .i64 a1_1, .int .i64 a1_2, .int .i64 a1_3]] ?_
       with_reducible refine (impl_forward.calls a1_0 a1_1 a1_2 a1_3 t260 t261 t262 t263 _ A27.out).mono ?_
       rintro e w32 ⟨rfl, hb⟩; refine ⟨_, rfl, ?_⟩; replace BK250 := Aside0.mk (bbz BK250 hb); replace BK251 := Aside0.mk (bbz BK251 hb); replace HB := Aside0.mk (below_step bzs hb); (try clear hb); (try clear hb2); (try clear hk); (try clear hi); refine hK.out _ _ ⟨bc BK250 0, bc BK250 1, bc BK250 2, bc BK250 3, bc BK251 0, bc BK251 1, bc BK251 2, bc BK251 3⟩ (fun hHeld => ?_); clear hK K; refine nz 40 ?_; refine last_ (i := 4) (N := none) #[T,T,T,T,T,F] rfl rfl (by kernel_rfl) (by decide) (fun K hK => ?_); have hs33 : w32.cell? ⟨gb250, 0, none⟩ = some (.int .i64 a0_0) := bc BK250 0; have hfs33 := blk_frozen BK250.out 0; have hns33_1 := NB251_250.out; have hms33_1 := NB250_251.out; have hs34 : w32.cell? ⟨gb250, 1, none⟩ = some (.int .i64 a0_1) := bc BK250 1; have hfs34 := blk_frozen BK250.out 1; have hns34_1 := NB251_250.out; have hms34_1 := NB250_251.out; have hs35 : w32.cell? ⟨gb250, 2, none⟩ = some (.int .i64 a0_2) := bc BK250 2; have hfs35 := blk_frozen BK250.out 2; have hns35_1 := NB251_250.out; have hms35_1 := NB250_251.out; have hs36 : w32.cell? ⟨gb250, 3, none⟩ = some (.int .i64 a0_3) := bc BK250 3; have hfs36 := blk_frozen BK250.out 3; have hns36_1 := NB251_250.out; have hms36_1 := NB250_251.out; refine skip_ (w1 := ?_) (by rfl) rfl ?_ ?_; rotate_left
       ·go_simp
        rfl
       refine hK.out _ _ ?_; clear hK K; refine last_ (i := 5) (N := none) #[T,T,T,T,T,T] rfl rfl (by kernel_rfl) (by decide) (fun K hK => ?_); have hs37 : w32.cell? ⟨gb251, 0, none⟩ = some (.int .i64 a1_0) := bc BK251 0; have hfs37 := blk_frozen BK251.out 0; have hns37_0 := NB250_251.out; have hms37_0 := NB251_250.out; have hs38 : w32.cell? ⟨gb251, 1, none⟩ = some (.int .i64 a1_1) := bc BK251 1; have hfs38 := blk_frozen BK251.out 1; have hns38_0 := NB250_251.out; have hms38_0 := NB251_250.out; have hs39 : w32.cell? ⟨gb251, 2, none⟩ = some (.int .i64 a1_2) := bc BK251 2; have hfs39 := blk_frozen BK251.out 2; have hns39_0 := NB250_251.out; have hms39_0 := NB251_250.out; have hs40 : w32.cell? ⟨gb251, 3, none⟩ = some (.int .i64 a1_3) := bc BK251 3; have hfs40 := blk_frozen BK251.out 3; have hns40_0 := NB250_251.out; have hms40_0 := NB251_250.out; refine skip_ (w1 := ?_) (by rfl) rfl ?_ ?_; rotate_left
       ·go_simp
        rfl
       refine hK.out _ _ ?_; clear hK K; refine done_ (by kernel_rfl) ?_; (try go_wp2); have n0_ : Aside0 (((((((((w32.setCell ⟨gb250, 0, none⟩ (.int .i64 t256)).setCell ⟨gb250, 1, none⟩ (.int .i64 t257)).setCell ⟨gb250, 2, none⟩ (.int .i64 t258)).setCell ⟨gb250, 3, none⟩ (.int .i64 t259)).setCell ⟨gb251, 0, none⟩ (.int .i64 t260)).setCell ⟨gb251, 1, none⟩ (.int .i64 t261)).setCell ⟨gb251, 2, none⟩ (.int .i64 t262)).setCell ⟨gb251, 3, none⟩ (.int .i64 t263)).heap[gb250]? = some (.cells #[.int .i64 t256, .int .i64 t257, .int .i64 t258, .int .i64 t259] 85 (0, 0))) := ⟨by (with_reducible repeat (first | refine blk_drewN ?_ _ | refine blk_drew ?_ | refine blk_alloc ?_ _)); refine blk_far ?_ NB250_251.out _; (with_reducible repeat (first | refine blk_drewN ?_ _ | refine blk_drew ?_ | refine blk_alloc ?_ _)); refine blk_far ?_ NB250_251.out _; (with_reducible repeat (first | refine blk_drewN ?_ _ | refine blk_drew ?_ | refine blk_alloc ?_ _)); refine blk_far ?_ NB250_251.out _; (with_reducible repeat (first | refine blk_drewN ?_ _ | refine blk_drew ?_ | refine blk_alloc ?_ _)); refine blk_far ?_ NB250_251.out _; (with_reducible repeat (first | refine blk_drewN ?_ _ | refine blk_drew ?_ | refine blk_alloc ?_ _)); refine blk_put (cs := #[.int .i64 t256, .int .i64 t257, .int .i64 t258, .int .i64 a0_3]) ?_ 3 _ rfl; (with_reducible repeat (first | refine blk_drewN ?_ _ | refine blk_drew ?_ | refine blk_alloc ?_ _)); refine blk_put (cs := #[.int .i64 t256, .int .i64 t257, .int .i64 a0_2, .int .i64 a0_3]) ?_ 2 _ rfl; (with_reducible repeat (first | refine blk_drewN ?_ _ | refine blk_drew ?_ | refine blk_alloc ?_ _)); refine blk_put (cs := #[.int .i64 t256, .int .i64 a0_1, .int .i64 a0_2, .int .i64 a0_3]) ?_ 1 _ rfl; (with_reducible repeat (first | refine blk_drewN ?_ _ | refine blk_drew ?_ | refine blk_alloc ?_ _)); refine blk_put (cs := #[.int .i64 a0_0, .int .i64 a0_1, .int .i64 a0_2, .int .i64 a0_3]) ?_ 0 _ rfl; (with_reducible repeat (first | refine blk_drewN ?_ _ | refine blk_drew ?_ | refine blk_alloc ?_ _)); exact BK250.out⟩
       have n1_ : Aside0 (((((((((w32.setCell ⟨gb250, 0, none⟩ (.int .i64 t256)).setCell ⟨gb250, 1, none⟩ (.int .i64 t257)).setCell ⟨gb250, 2, none⟩ (.int .i64 t258)).setCell ⟨gb250, 3, none⟩ (.int .i64 t259)).setCell ⟨gb251, 0, none⟩ (.int .i64 t260)).setCell ⟨gb251, 1, none⟩ (.int .i64 t261)).setCell ⟨gb251, 2, none⟩ (.int .i64 t262)).setCell ⟨gb251, 3, none⟩ (.int .i64 t263)).heap[gb251]? = some (.cells #[.int .i64 t260, .int .i64 t261, .int .i64 t262, .int .i64 t263] 85 (0, 0))) := ⟨by (with_reducible repeat (first | refine blk_drewN ?_ _ | refine blk_drew ?_ | refine blk_alloc ?_ _)); refine blk_put (cs := #[.int .i64 t260, .int .i64 t261, .int .i64 t262, .int .i64 a1_3]) ?_ 3 _ rfl; (with_reducible repeat (first | refine blk_drewN ?_ _ | refine blk_drew ?_ | refine blk_alloc ?_ _)); refine blk_put (cs := #[.int .i64 t260, .int .i64 t261, .int .i64 a1_2, .int .i64 a1_3]) ?_ 2 _ rfl; (with_reducible repeat (first | refine blk_drewN ?_ _ | refine blk_drew ?_ | refine blk_alloc ?_ _)); refine blk_put (cs := #[.int .i64 t260, .int .i64 a1_1, .int .i64 a1_2, .int .i64 a1_3]) ?_ 1 _ rfl; (with_reducible repeat (first | refine blk_drewN ?_ _ | refine blk_drew ?_ | refine blk_alloc ?_ _)); refine blk_put (cs := #[.int .i64 a1_0, .int .i64 a1_1, .int .i64 a1_2, .int .i64 a1_3]) ?_ 0 _ rfl; (with_reducible repeat (first | refine blk_drewN ?_ _ | refine blk_drew ?_ | refine blk_alloc ?_ _)); refine blk_far ?_ NB251_250.out _; (with_reducible repeat (first | refine blk_drewN ?_ _ | refine blk_drew ?_ | refine blk_alloc ?_ _)); refine blk_far ?_ NB251_250.out _; (with_reducible repeat (first | refine blk_drewN ?_ _ | refine blk_drew ?_ | refine blk_alloc ?_ _)); refine blk_far ?_ NB251_250.out _; (with_reducible repeat (first | refine blk_drewN ?_ _ | refine blk_drew ?_ | refine blk_alloc ?_ _)); refine blk_far ?_ NB251_250.out _; (with_reducible repeat (first | refine blk_drewN ?_ _ | refine blk_drew ?_ | refine blk_alloc ?_ _)); exact BK251.out⟩
       have n2_ : Aside0 (Below w.heap.size w ((((((((w32.setCell ⟨gb250, 0, none⟩ (.int .i64 t256)).setCell ⟨gb250, 1, none⟩ (.int .i64 t257)).setCell ⟨gb250, 2, none⟩ (.int .i64 t258)).setCell ⟨gb250, 3, none⟩ (.int .i64 t259)).setCell ⟨gb251, 0, none⟩ (.int .i64 t260)).setCell ⟨gb251, 1, none⟩ (.int .i64 t261)).setCell ⟨gb251, 2, none⟩ (.int .i64 t262)).setCell ⟨gb251, 3, none⟩ (.int .i64 t263))) := ⟨bzs⟩
       (try clear BK250); (try clear BK251); (try clear HB); generalize ((((((((w32.setCell ⟨gb250, 0, none⟩ (.int .i64 t256)).setCell ⟨gb250, 1, none⟩ (.int .i64 t257)).setCell ⟨gb250, 2, none⟩ (.int .i64 t258)).setCell ⟨gb250, 3, none⟩ (.int .i64 t259)).setCell ⟨gb251, 0, none⟩ (.int .i64 t260)).setCell ⟨gb251, 1, none⟩ (.int .i64 t261)).setCell ⟨gb251, 2, none⟩ (.int .i64 t262)).setCell ⟨gb251, 3, none⟩ (.int .i64 t263)) = w41 at n0_ n1_ n2_ ⊢; have BK250 := n0_; have BK251 := n1_; have HB := n2_; clear n0_ n1_ n2_; replace BK250 := Aside0.mk (blk_drew BK250.out); replace BK251 := Aside0.mk (blk_drew BK251.out); replace HB := Aside0.mk (below_drew1 HB.out); refine start_ (n := 8) (S := fun w' => w'.cell? ⟨gb250, 0, none⟩ = some (.int .i64 t256) ∧ w'.cell? ⟨gb250, 1, none⟩ = some (.int .i64 t257) ∧ w'.cell? ⟨gb250, 2, none⟩ = some (.int .i64 t258) ∧ w'.cell? ⟨gb250, 3, none⟩ = some (.int .i64 t259)) (ds := []) #[F,F,F,F,F,F,F,F] (by kernel_rfl) rfl rfl ⟨bc BK250 0, bc BK250 1, bc BK250 2, bc BK250 3⟩ (fun hHeld => ?_); refine with_tabW impl_HowMeet.tab6 impl_HowMeet.bits6 (fun HT_ HW_ => ?_); generalize w41.drew = w42 at BK250 BK251 HB hHeld ⊢; refine pz HT_ 0 41 ?_; refine pz HT_ 2 43 ?_; refine tz4 HT_ HW_ hHeld 1 42 ?_; refine tz4 HT_ HW_ hHeld 3 44 ?_; refine join_ (σ := Nat × Nat) 2 #[T,T,T,T,T,T,F,F] (fun s_ => [(7, .pointer (some ⟨s_.1, 0, none⟩)), (8, .pointer (some ⟨s_.2, 0, none⟩))]) (fun s_ w' => (w'.cell? ⟨gb250, 0, none⟩ = some (.int .i64 t256) ∧ w'.cell? ⟨gb250, 1, none⟩ = some (.int .i64 t257) ∧ w'.cell? ⟨gb250, 2, none⟩ = some (.int .i64 t258) ∧ w'.cell? ⟨gb250, 3, none⟩ = some (.int .i64 t259)) ∧ (w'.heap[gb250]? = some (.cells #[.int .i64 t256, .int .i64 t257, .int .i64 t258, .int .i64 t259] 85 (0, 0))) ∧ (w'.heap[gb251]? = some (.cells #[.int .i64 t260, .int .i64 t261, .int .i64 t262, .int .i64 t263] 85 (0, 0))) ∧ (w'.heap[s_.1]? = some (.cells #[.int .i64 0, .int .i64 0] 82 (0, 0))) ∧ (w'.heap[s_.2]? = some (.cells #[.int .i64 0, .int .i64 0] 82 (0, 0))) ∧ (w.heap.size ≤ s_.1) ∧ (w.heap.size ≤ s_.1) ∧ (gb250 ≠ s_.1) ∧ (s_.1 ≠ gb250) ∧ (gb251 ≠ s_.1) ∧ (s_.1 ≠ gb251) ∧ (s_.2 ≠ s_.1) ∧ (s_.1 ≠ s_.2) ∧ (w.heap.size ≤ s_.2) ∧ (w.heap.size ≤ s_.2) ∧ (gb250 ≠ s_.2) ∧ (s_.2 ≠ gb250) ∧ (gb251 ≠ s_.2) ∧ (s_.2 ≠ gb251) ∧ (Below w.heap.size w w')) ?_ ?_
       rotate_left
       ·intro hCont; refine two_ (i := 4) (j := 5) (Ni := some 7) (Nj := some 8) #[T,T,T,T,T,F,F,F] #[T,T,T,T,F,T,F,F] rfl rfl rfl rfl (two_of HT_.out (by kernel_rfl)) (by decide) (by decide) (fun K hK => ?_) (fun K hK => ?_)
        ·skip
         refine box_step ?hg (N := 7) ?hd (cs := #[.int .i64 0, .int .i64 0]) (t := 82) ?hr ?_; (case hd => rfl); (case hg => rfl); (case hr => first | (go_simp; done) | (go_simp; rfl)); intro gb264 hg w43 hbox hb; have BK264 := Aside0.mk (hbox); have GW264 := Aside0.mk (gez HB hg); have GE264 := Aside0.mk (gez HB hg); replace HB := Aside0.mk (below_step bzs hb); have NB250_264 := Aside0.mk ((by rw [hg]; exact Nat.ne_of_lt (blk_lt (g := gb250) (o := .cells #[.int .i64 t256, .int .i64 t257, .int .i64 t258, .int .i64 t259] 85 (0, 0)) (kz BK250)) : gb250 ≠ gb264)); have NB264_250 := Aside0.mk ((by rw [hg]; exact Nat.ne_of_gt (blk_lt (g := gb250) (o := .cells #[.int .i64 t256, .int .i64 t257, .int .i64 t258, .int .i64 t259] 85 (0, 0)) (kz BK250)) : gb264 ≠ gb250)); replace BK250 := Aside0.mk (bbz BK250 hb); have NB251_264 := Aside0.mk ((by rw [hg]; exact Nat.ne_of_lt (blk_lt (g := gb251) (o := .cells #[.int .i64 t260, .int .i64 t261, .int .i64 t262, .int .i64 t263] 85 (0, 0)) (kz BK251)) : gb251 ≠ gb264)); have NB264_251 := Aside0.mk ((by rw [hg]; exact Nat.ne_of_gt (blk_lt (g := gb251) (o := .cells #[.int .i64 t260, .int .i64 t261, .int .i64 t262, .int .i64 t263] 85 (0, 0)) (kz BK251)) : gb264 ≠ gb251)); replace BK251 := Aside0.mk (bbz BK251 hb); clear hb hbox hg; refine hK.out _ _ ⟨bc BK250 0, bc BK250 1, bc BK250 2, bc BK250 3⟩ (fun hHeld => ?_); clear hK K; refine nz 7 ?_; refine oz HT_ 5 (some 8) (fun K hK => ?_); refine box_step ?hg (N := 8) ?hd (cs := #[.int .i64 0, .int .i64 0]) (t := 82) ?hr ?_; (case hd => rfl); (case hg => rfl); (case hr => first | (go_simp; done) | (go_simp; rfl))
         intro gb265 hg w44 hbox hb; have BK265 := Aside0.mk (hbox); have GW265 := Aside0.mk (gez HB hg); have GE265 := Aside0.mk (gez HB hg); replace HB := Aside0.mk (below_step bzs hb); have NB250_265 := Aside0.mk ((by rw [hg]; exact Nat.ne_of_lt (blk_lt (g := gb250) (o := .cells #[.int .i64 t256, .int .i64 t257, .int .i64 t258, .int .i64 t259] 85 (0, 0)) (kz BK250)) : gb250 ≠ gb265)); have NB265_250 := Aside0.mk ((by rw [hg]; exact Nat.ne_of_gt (blk_lt (g := gb250) (o := .cells #[.int .i64 t256, .int .i64 t257, .int .i64 t258, .int .i64 t259] 85 (0, 0)) (kz BK250)) : gb265 ≠ gb250)); replace BK250 := Aside0.mk (bbz BK250 hb); have NB251_265 := Aside0.mk ((by rw [hg]; exact Nat.ne_of_lt (blk_lt (g := gb251) (o := .cells #[.int .i64 t260, .int .i64 t261, .int .i64 t262, .int .i64 t263] 85 (0, 0)) (kz BK251)) : gb251 ≠ gb265)); have NB265_251 := Aside0.mk ((by rw [hg]; exact Nat.ne_of_gt (blk_lt (g := gb251) (o := .cells #[.int .i64 t260, .int .i64 t261, .int .i64 t262, .int .i64 t263] 85 (0, 0)) (kz BK251)) : gb265 ≠ gb251)); replace BK251 := Aside0.mk (bbz BK251 hb); have NB264_265 := Aside0.mk ((by rw [hg]; exact Nat.ne_of_lt (blk_lt (g := gb264) (o := .cells #[.int .i64 0, .int .i64 0] 82 (0, 0)) (kz BK264)) : gb264 ≠ gb265)); have NB265_264 := Aside0.mk ((by rw [hg]; exact Nat.ne_of_gt (blk_lt (g := gb264) (o := .cells #[.int .i64 0, .int .i64 0] 82 (0, 0)) (kz BK264)) : gb265 ≠ gb264)); replace BK264 := Aside0.mk (bbz BK264 hb); clear hb hbox hg; refine hK.out _ _ ⟨bc BK250 0, bc BK250 1, bc BK250 2, bc BK250 3⟩ (fun hHeld => ?_)
         clear hK K; refine nz 8 ?_
         exact norm_ (by simp only [putAll, Act.put, List.setIfInBounds_toArray, List.set_cons_zero, List.set_cons_succ]) (hCont (gb264, gb265) _ ⟨hHeld, (kz BK250), (kz BK251), (kz BK264), (kz BK265), GW264.out, GE264.out, NB250_264.out, NB264_250.out, NB251_264.out, NB264_251.out, NB265_264.out, NB264_265.out, GW265.out, GE265.out, NB250_265.out, NB265_250.out, NB251_265.out, NB265_251.out, bzs⟩)
        ·skip
         refine box_step ?hg (N := 8) ?hd (cs := #[.int .i64 0, .int .i64 0]) (t := 82) ?hr ?_; (case hd => rfl); (case hg => rfl); (case hr => first | (go_simp; done) | (go_simp; rfl)); intro gb265 hg w43 hbox hb; have BK265 := Aside0.mk (hbox); have GW265 := Aside0.mk (gez HB hg); have GE265 := Aside0.mk (gez HB hg); replace HB := Aside0.mk (below_step bzs hb); have NB250_265 := Aside0.mk ((by rw [hg]; exact Nat.ne_of_lt (blk_lt (g := gb250) (o := .cells #[.int .i64 t256, .int .i64 t257, .int .i64 t258, .int .i64 t259] 85 (0, 0)) (kz BK250)) : gb250 ≠ gb265)); have NB265_250 := Aside0.mk ((by rw [hg]; exact Nat.ne_of_gt (blk_lt (g := gb250) (o := .cells #[.int .i64 t256, .int .i64 t257, .int .i64 t258, .int .i64 t259] 85 (0, 0)) (kz BK250)) : gb265 ≠ gb250)); replace BK250 := Aside0.mk (bbz BK250 hb); have NB251_265 := Aside0.mk ((by rw [hg]; exact Nat.ne_of_lt (blk_lt (g := gb251) (o := .cells #[.int .i64 t260, .int .i64 t261, .int .i64 t262, .int .i64 t263] 85 (0, 0)) (kz BK251)) : gb251 ≠ gb265)); have NB265_251 := Aside0.mk ((by rw [hg]; exact Nat.ne_of_gt (blk_lt (g := gb251) (o := .cells #[.int .i64 t260, .int .i64 t261, .int .i64 t262, .int .i64 t263] 85 (0, 0)) (kz BK251)) : gb265 ≠ gb251)); replace BK251 := Aside0.mk (bbz BK251 hb); clear hb hbox hg; refine hK.out _ _ ⟨bc BK250 0, bc BK250 1, bc BK250 2, bc BK250 3⟩ (fun hHeld => ?_); clear hK K; refine nz 8 ?_; refine oz HT_ 4 (some 7) (fun K hK => ?_); refine box_step ?hg (N := 7) ?hd (cs := #[.int .i64 0, .int .i64 0]) (t := 82) ?hr ?_; (case hd => rfl); (case hg => rfl); (case hr => first | (go_simp; done) | (go_simp; rfl))
         intro gb264 hg w44 hbox hb; have BK264 := Aside0.mk (hbox); have GW264 := Aside0.mk (gez HB hg); have GE264 := Aside0.mk (gez HB hg); replace HB := Aside0.mk (below_step bzs hb); have NB250_264 := Aside0.mk ((by rw [hg]; exact Nat.ne_of_lt (blk_lt (g := gb250) (o := .cells #[.int .i64 t256, .int .i64 t257, .int .i64 t258, .int .i64 t259] 85 (0, 0)) (kz BK250)) : gb250 ≠ gb264)); have NB264_250 := Aside0.mk ((by rw [hg]; exact Nat.ne_of_gt (blk_lt (g := gb250) (o := .cells #[.int .i64 t256, .int .i64 t257, .int .i64 t258, .int .i64 t259] 85 (0, 0)) (kz BK250)) : gb264 ≠ gb250)); replace BK250 := Aside0.mk (bbz BK250 hb); have NB251_264 := Aside0.mk ((by rw [hg]; exact Nat.ne_of_lt (blk_lt (g := gb251) (o := .cells #[.int .i64 t260, .int .i64 t261, .int .i64 t262, .int .i64 t263] 85 (0, 0)) (kz BK251)) : gb251 ≠ gb264)); have NB264_251 := Aside0.mk ((by rw [hg]; exact Nat.ne_of_gt (blk_lt (g := gb251) (o := .cells #[.int .i64 t260, .int .i64 t261, .int .i64 t262, .int .i64 t263] 85 (0, 0)) (kz BK251)) : gb264 ≠ gb251)); replace BK251 := Aside0.mk (bbz BK251 hb); have NB265_264 := Aside0.mk ((by rw [hg]; exact Nat.ne_of_lt (blk_lt (g := gb265) (o := .cells #[.int .i64 0, .int .i64 0] 82 (0, 0)) (kz BK265)) : gb265 ≠ gb264)); have NB264_265 := Aside0.mk ((by rw [hg]; exact Nat.ne_of_gt (blk_lt (g := gb265) (o := .cells #[.int .i64 0, .int .i64 0] 82 (0, 0)) (kz BK265)) : gb264 ≠ gb265)); replace BK265 := Aside0.mk (bbz BK265 hb); clear hb hbox hg; refine hK.out _ _ ⟨bc BK250 0, bc BK250 1, bc BK250 2, bc BK250 3⟩ (fun hHeld => ?_)
         clear hK K; refine nz 7 ?_
         exact norm_ (by simp only [putAll, Act.put, List.setIfInBounds_toArray, List.set_cons_zero, List.set_cons_succ]) (hCont (gb264, gb265) _ ⟨hHeld, (kz BK250), (kz BK251), (kz BK264), (kz BK265), GW264.out, GE264.out, NB250_264.out, NB264_250.out, NB251_264.out, NB264_251.out, NB265_264.out, NB264_265.out, GW265.out, GE265.out, NB250_265.out, NB265_250.out, NB251_265.out, NB265_251.out, bzs⟩)
       rintro ⟨gb264, gb265⟩ w45 ⟨hS_, h0_, h1_, h2_, h3_, h4_, h5_, h6_, h7_, h8_, h9_, h10_, h11_, h12_, h13_, h14_, h15_, h16_, h17_, h18_⟩; have n0_ : Aside0 (w45.heap[gb250]? = some (.cells #[.int .i64 t256, .int .i64 t257, .int .i64 t258, .int .i64 t259] 85 (0, 0))) := ⟨h0_⟩
       have n1_ : Aside0 (w45.heap[gb251]? = some (.cells #[.int .i64 t260, .int .i64 t261, .int .i64 t262, .int .i64 t263] 85 (0, 0))) := ⟨h1_⟩
       have n2_ : Aside0 (w45.heap[gb264]? = some (.cells #[.int .i64 0, .int .i64 0] 82 (0, 0))) := ⟨h2_⟩
       have n3_ : Aside0 (w45.heap[gb265]? = some (.cells #[.int .i64 0, .int .i64 0] 82 (0, 0))) := ⟨h3_⟩
       have n4_ : Aside0 (w.heap.size ≤ gb264) := ⟨h4_⟩
       have n5_ : Aside0 (w.heap.size ≤ gb264) := ⟨h5_⟩
       have n6_ : Aside0 (gb250 ≠ gb264) := ⟨h6_⟩
       have n7_ : Aside0 (gb264 ≠ gb250) := ⟨h7_⟩
       have n8_ : Aside0 (gb251 ≠ gb264) := ⟨h8_⟩
       have n9_ : Aside0 (gb264 ≠ gb251) := ⟨h9_⟩
       have n10_ : Aside0 (gb265 ≠ gb264) := ⟨h10_⟩
       have n11_ : Aside0 (gb264 ≠ gb265) := ⟨h11_⟩
       have n12_ : Aside0 (w.heap.size ≤ gb265) := ⟨h12_⟩
       have n13_ : Aside0 (w.heap.size ≤ gb265) := ⟨h13_⟩
       have n14_ : Aside0 (gb250 ≠ gb265) := ⟨h14_⟩
       have n15_ : Aside0 (gb265 ≠ gb250) := ⟨h15_⟩
       have n16_ : Aside0 (gb251 ≠ gb265) := ⟨h16_⟩
       have n17_ : Aside0 (gb265 ≠ gb251) := ⟨h17_⟩
       have n18_ : Aside0 (Below w.heap.size w w45) := ⟨h18_⟩
       clear BK250; clear BK251; clear HB; clear h0_ h1_ h2_ h3_ h4_ h5_ h6_ h7_ h8_ h9_ h10_ h11_ h12_ h13_ h14_ h15_ h16_ h17_ h18_; have BK250 := n0_; have BK251 := n1_; have BK264 := n2_; have BK265 := n3_; have GW264 := n4_; have GE264 := n5_; have NB250_264 := n6_; have NB264_250 := n7_; have NB251_264 := n8_; have NB264_251 := n9_; have NB265_264 := n10_; have NB264_265 := n11_; have GW265 := n12_; have GE265 := n13_; have NB250_265 := n14_; have NB265_250 := n15_; have NB251_265 := n16_; have NB265_251 := n17_; have HB := n18_; clear n0_ n1_ n2_ n3_ n4_ n5_ n6_ n7_ n8_ n9_ n10_ n11_ n12_ n13_ n14_ n15_ n16_ n17_ n18_; have hHeld : w45.cell? ⟨gb250, 0, none⟩ = some (.int .i64 t256) ∧ w45.cell? ⟨gb250, 1, none⟩ = some (.int .i64 t257) ∧ w45.cell? ⟨gb250, 2, none⟩ = some (.int .i64 t258) ∧ w45.cell? ⟨gb250, 3, none⟩ = some (.int .i64 t259) := hS_; refine norm_ (a' := ?_) ?_ ?_; rotate_left
       ·simp only [putAll, Act.put, List.setIfInBounds_toArray, List.set_cons_zero, List.set_cons_succ]
        rfl
       refine oz HT_ 6 none (fun K hK => ?_); have hs46 : w45.cell? ⟨gb264, 0, none⟩ = some (.int .i64 0) := bc BK264 0; have hfs46 := blk_frozen BK264.out 0; have hns46_0 := NB250_264.out; have hns46_1 := NB251_264.out; have hns46_3 := NB265_264.out; have hms46_0 := NB264_250.out; have hms46_1 := NB264_251.out; have hms46_3 := NB264_265.out; have hs47 : w45.cell? ⟨gb264, 1, none⟩ = some (.int .i64 0) := bc BK264 1; have hfs47 := blk_frozen BK264.out 1; have hns47_0 := NB250_264.out; have hns47_1 := NB251_264.out; have hns47_3 := NB265_264.out; have hms47_0 := NB264_250.out; have hms47_1 := NB264_251.out; have hms47_3 := NB264_265.out; refine skip_ (w1 := ?_) (by rfl) rfl ?_ ?_; rotate_left
       ·go_simp
        rfl
       refine hK.out _ _ ⟨((cell_far (p := ⟨gb264, _, none⟩) NB250_264.out _).trans (((cell_far (p := ⟨gb264, _, none⟩) NB250_264.out _).trans (hHeld.1)))), ((cell_far (p := ⟨gb264, _, none⟩) NB250_264.out _).trans (((cell_far (p := ⟨gb264, _, none⟩) NB250_264.out _).trans (hHeld.2.1)))), ((cell_far (p := ⟨gb264, _, none⟩) NB250_264.out _).trans (((cell_far (p := ⟨gb264, _, none⟩) NB250_264.out _).trans (hHeld.2.2.1)))), ((cell_far (p := ⟨gb264, _, none⟩) NB250_264.out _).trans (((cell_far (p := ⟨gb264, _, none⟩) NB250_264.out _).trans (hHeld.2.2.2))))⟩ (fun hHeld => ?_); clear hK K; refine oz HT_ 7 none (fun K hK => ?_); have hs48 : w45.cell? ⟨gb265, 0, none⟩ = some (.int .i64 0) := bc BK265 0; have hfs48 := blk_frozen BK265.out 0; have hns48_0 := NB250_265.out; have hns48_1 := NB251_265.out; have hns48_2 := NB264_265.out; have hms48_0 := NB265_250.out; have hms48_1 := NB265_251.out; have hms48_2 := NB265_264.out; have hs49 : w45.cell? ⟨gb265, 1, none⟩ = some (.int .i64 0) := bc BK265 1; have hfs49 := blk_frozen BK265.out 1; have hns49_0 := NB250_265.out; have hns49_1 := NB251_265.out; have hns49_2 := NB264_265.out; have hms49_0 := NB265_250.out; have hms49_1 := NB265_251.out; have hms49_2 := NB265_264.out; refine skip_ (w1 := ?_) (by rfl) rfl ?_ ?_; rotate_left
       ·go_simp
        rfl
       refine hK.out _ _ ⟨((cell_far (p := ⟨gb265, _, none⟩) NB250_265.out _).trans (((cell_far (p := ⟨gb265, _, none⟩) NB250_265.out _).trans (hHeld.1)))), ((cell_far (p := ⟨gb265, _, none⟩) NB250_265.out _).trans (((cell_far (p := ⟨gb265, _, none⟩) NB250_265.out _).trans (hHeld.2.1)))), ((cell_far (p := ⟨gb265, _, none⟩) NB250_265.out _).trans (((cell_far (p := ⟨gb265, _, none⟩) NB250_265.out _).trans (hHeld.2.2.1)))), ((cell_far (p := ⟨gb265, _, none⟩) NB250_265.out _).trans (((cell_far (p := ⟨gb265, _, none⟩) NB250_265.out _).trans (hHeld.2.2.2))))⟩ (fun hHeld => ?_); clear hK K; refine dz HT_ ?_; have hnb50 := NB264_250.out; have hnc50 := NB250_264.out; have hnb51 := NB264_251.out; have hnc51 := NB251_264.out; have hnb52 := NB264_265.out; have hnc52 := NB265_264.out; obtain ⟨hcz53_0, hcz53_1, hfz53_0, hfz53_1⟩ := cells2 BK264; have hnb54 := NB251_250.out; have hnc54 := NB250_251.out; have hnb55 := NB251_265.out; have hnc55 := NB265_251.out; obtain ⟨hcz56_0, hcz56_1, hcz56_2, hcz56_3, hfz56_0, hfz56_1, hfz56_2, hfz56_3⟩ := cells4 BK251
       go_upto_if 48 with (first | ((with_reducible refine gt (some 48) rfl ?_); refine gc Try.func170 (impl_BeforePoint.calls t256 t257 t260 t261 t266 _ A28.out) ?_; rintro e w57 ⟨rfl, hb⟩; refine ⟨_, rfl, ?_⟩; replace BK250 := Aside0.mk (bbz BK250 hb); replace BK251 := Aside0.mk (bbz BK251 hb); replace BK264 := Aside0.mk (blk_below (g := gb264) (o := .cells #[.int .i64 t256, .int .i64 t257] 82 (0, 0)) (by (with_reducible repeat (first | refine blk_drewN ?_ _ | refine blk_drew ?_ | refine blk_alloc ?_ _)); refine blk_far ?_ NB264_265.out _; (with_reducible repeat (first | refine blk_drewN ?_ _ | refine blk_drew ?_ | refine blk_alloc ?_ _)); refine blk_far ?_ NB264_265.out _; (with_reducible repeat (first | refine blk_drewN ?_ _ | refine blk_drew ?_ | refine blk_alloc ?_ _)); refine blk_put (cs := #[.int .i64 t256, .int .i64 0]) ?_ 1 _ rfl; (with_reducible repeat (first | refine blk_drewN ?_ _ | refine blk_drew ?_ | refine blk_alloc ?_ _)); refine blk_put (cs := #[.int .i64 0, .int .i64 0]) ?_ 0 _ rfl; (with_reducible repeat (first | refine blk_drewN ?_ _ | refine blk_drew ?_ | refine blk_alloc ?_ _)); exact BK264.out) hb); replace BK265 := Aside0.mk (blk_below (g := gb265) (o := .cells #[.int .i64 t258, .int .i64 t259] 82 (0, 0)) (by (with_reducible repeat (first | refine blk_drewN ?_ _ | refine blk_drew ?_ | refine blk_alloc ?_ _)); refine blk_put (cs := #[.int .i64 t258, .int .i64 0]) ?_ 1 _ rfl; (with_reducible repeat (first | refine blk_drewN ?_ _ | refine blk_drew ?_ | refine blk_alloc ?_ _)); refine blk_put (cs := #[.int .i64 0, .int .i64 0]) ?_ 0 _ rfl; (with_reducible repeat (first | refine blk_drewN ?_ _ | refine blk_drew ?_ | refine blk_alloc ?_ _)); refine blk_far ?_ NB265_264.out _; (with_reducible repeat (first | refine blk_drewN ?_ _ | refine blk_drew ?_ | refine blk_alloc ?_ _)); refine blk_far ?_ NB265_264.out _; (with_reducible repeat (first | refine blk_drewN ?_ _ | refine blk_drew ?_ | refine blk_alloc ?_ _)); exact BK265.out) hb); replace HB := Aside0.mk (below_step bzs hb); (try clear hb)))
       (try simp only [Act.put, List.setIfInBounds_toArray, List.set_cons_zero, List.set_cons_succ])
       go_cut [] (fun wc => ∃ (kq : Nat) (x265000_28 : Int) (x265001_28 : Int), Aside0 (impl_HowMeet.j2 kq t260 t261 t262 t263 x265000_28 x265001_28 t258 t259 = some r) ∧ Aside0 (kq ≤ kj19) ∧ Aside0 (wc.heap[gb250]? = some (.cells #[.int .i64 t256, .int .i64 t257, .int .i64 t258, .int .i64 t259] 85 (0, 0))) ∧ Aside0 (wc.heap[gb251]? = some (.cells #[.int .i64 t260, .int .i64 t261, .int .i64 t262, .int .i64 t263] 85 (0, 0))) ∧ Aside0 (wc.heap[gb264]? = some (.cells #[.int .i64 x265000_28, .int .i64 x265001_28] 82 (0, 0))) ∧ Aside0 (wc.heap[gb265]? = some (.cells #[.int .i64 t258, .int .i64 t259] 82 (0, 0))) ∧ Aside0 (Below w.heap.size w wc))
       case first =>
        have H := HC29.out; clear HC29
        by_cases c58 : t266 = true
        ·subst c58; replace H := ift H; have H' := Aside0.mk H; clear H; have hnb59 := NB251_250.out; have hnc59 := NB250_251.out; have hnb60 := NB251_264.out; have hnc60 := NB264_251.out; have hnb61 := NB251_265.out; have hnc61 := NB265_251.out; obtain ⟨hcz62_0, hcz62_1, hcz62_2, hcz62_3, hfz62_0, hfz62_1, hfz62_2, hfz62_3⟩ := cells4 BK251; have hnb63 := NB264_250.out; have hnc63 := NB250_264.out; have hnb64 := NB264_265.out; have hnc64 := NB265_264.out; obtain ⟨hcz65_0, hcz65_1, hfz65_0, hfz65_1⟩ := cells2 BK264; go_wp2
         go_meet
         case rel => exact ⟨_, (t260), (t261), H', ⟨by have := HJ2.out; have := HJ19.out; first | omega | exact Nat.le_refl _⟩, ⟨kz BK250⟩, ⟨kz BK251⟩, ⟨by (with_reducible repeat (first | refine blk_drewN ?_ _ | refine blk_drew ?_ | refine blk_alloc ?_ _)); refine blk_put (cs := #[.int .i64 t260, .int .i64 t257]) ?_ 1 _ rfl; (with_reducible repeat (first | refine blk_drewN ?_ _ | refine blk_drew ?_ | refine blk_alloc ?_ _)); refine blk_put (cs := #[.int .i64 t256, .int .i64 t257]) ?_ 0 _ rfl; (with_reducible repeat (first | refine blk_drewN ?_ _ | refine blk_drew ?_ | refine blk_alloc ?_ _)); exact BK264.out⟩, ⟨kz BK265⟩, ⟨bzs⟩⟩
        ·replace c58 := Bool.eq_false_iff.mpr c58; subst c58; replace H := iff_ H; have H' := Aside0.mk H; clear H; go_wp2
         go_meet
         case rel => exact ⟨_, (t256), (t257), H', ⟨by have := HJ2.out; have := HJ19.out; first | omega | exact Nat.le_refl _⟩, ⟨kz BK250⟩, ⟨kz BK251⟩, ⟨kz BK264⟩, ⟨kz BK265⟩, ⟨bzs⟩⟩
       case rest =>
        clear HC29; (try clear c1); (try clear c2); (try clear p2); (try clear c5); (try clear c6); (try clear c7); (try clear c9); (try clear c14); (try clear c15); (try clear c16); (try clear c17); (try clear c24); (try clear c24b0); (try clear c24b1); (try clear c25); (try clear c50); (try clear c51); (try clear c52); (try clear c54); (try clear c55); (try clear c58); (try clear c59); (try clear c60); (try clear c61); (try clear c63); (try clear c64); (try clear hcz10_0); (try clear hcz10_1); (try clear hcz10_2); (try clear hcz10_3); (try clear hcz12_0); (try clear hcz12_1); (try clear hcz12_2); (try clear hcz12_3); (try clear hcz15_0); (try clear hcz15_1); (try clear hcz15_2); (try clear hcz15_3); (try clear hcz53_0); (try clear hcz53_1); (try clear hcz56_0); (try clear hcz56_1); (try clear hcz56_2); (try clear hcz56_3); (try clear hcz62_0); (try clear hcz62_1); (try clear hcz62_2); (try clear hcz62_3); (try clear hcz65_0); (try clear hcz65_1); (try clear hfz10_0); (try clear hfz10_1); (try clear hfz10_2); (try clear hfz10_3); (try clear hfz12_0); (try clear hfz12_1); (try clear hfz12_2); (try clear hfz12_3); (try clear hfz15_0); (try clear hfz15_1); (try clear hfz15_2); (try clear hfz15_3); (try clear hfz53_0); (try clear hfz53_1); (try clear hfz56_0); (try clear hfz56_1); (try clear hfz56_2); (try clear hfz56_3); (try clear hfz62_0); (try clear hfz62_1); (try clear hfz62_2); (try clear hfz62_3); (try clear hfz65_0); (try clear hfz65_1); (try clear p2); obtain ⟨kq, x265000_28, x265001_28, HA, HJ28, BK250, BK251, BK264, BK265, HB⟩ := hcut
        cases kq with
        | zero => exact absurd HA.out (by simp [impl_HowMeet.j2])
        | succ kj28 =>
         have H := HA.out; clear HA; simp only [impl_HowMeet.j2] at H; replace H := Option.bind_eq_some_iff.mp H; obtain ⟨t267, A660, H⟩ := H; have A66 := Aside0.mk A660; clear A660; have HC67 := Aside0.mk H; clear H; have hnb68 := NB251_250.out; have hnc68 := NB250_251.out; have hnb69 := NB251_264.out; have hnc69 := NB264_251.out; have hnb70 := NB251_265.out; have hnc70 := NB265_251.out; obtain ⟨hcz71_0, hcz71_1, hcz71_2, hcz71_3, hfz71_0, hfz71_1, hfz71_2, hfz71_3⟩ := cells4 BK251; have hnb72 := NB265_250.out; have hnc72 := NB250_265.out; have hnb73 := NB265_264.out; have hnc73 := NB264_265.out; obtain ⟨hcz74_0, hcz74_1, hfz74_0, hfz74_1⟩ := cells2 BK265
         go_upto_if 54 with (first | ((with_reducible refine gt (some 54) rfl ?_); refine gc Try.func170 (impl_BeforePoint.calls t262 t263 t258 t259 t267 _ A66.out) ?_; rintro e w75 ⟨rfl, hb⟩; refine ⟨_, rfl, ?_⟩; replace BK250 := Aside0.mk (bbz BK250 hb); replace BK251 := Aside0.mk (bbz BK251 hb); replace BK264 := Aside0.mk (bbz BK264 hb); replace BK265 := Aside0.mk (bbz BK265 hb); replace HB := Aside0.mk (below_step bzs hb); (try clear hb)))
         (try simp only [Act.put, List.setIfInBounds_toArray, List.set_cons_zero, List.set_cons_succ])
         go_cut [] (fun wc => ∃ (kq : Nat) (x266000_66 : Int) (x266001_66 : Int), Aside0 (impl_HowMeet.j3 kq x265000_28 x265001_28 x266000_66 x266001_66 = some r) ∧ Aside0 (kq ≤ kj28) ∧ Aside0 (wc.heap[gb250]? = some (.cells #[.int .i64 t256, .int .i64 t257, .int .i64 t258, .int .i64 t259] 85 (0, 0))) ∧ Aside0 (wc.heap[gb251]? = some (.cells #[.int .i64 t260, .int .i64 t261, .int .i64 t262, .int .i64 t263] 85 (0, 0))) ∧ Aside0 (wc.heap[gb264]? = some (.cells #[.int .i64 x265000_28, .int .i64 x265001_28] 82 (0, 0))) ∧ Aside0 (wc.heap[gb265]? = some (.cells #[.int .i64 x266000_66, .int .i64 x266001_66] 82 (0, 0))) ∧ Aside0 (Below w.heap.size w wc))
         case first =>
          have H := HC67.out; clear HC67
          by_cases c76 : t267 = true
          ·subst c76; replace H := ift H; have H' := Aside0.mk H; clear H; have hnb77 := NB251_250.out; have hnc77 := NB250_251.out; have hnb78 := NB251_264.out; have hnc78 := NB264_251.out; have hnb79 := NB251_265.out; have hnc79 := NB265_251.out; obtain ⟨hcz80_0, hcz80_1, hcz80_2, hcz80_3, hfz80_0, hfz80_1, hfz80_2, hfz80_3⟩ := cells4 BK251; have hnb81 := NB265_250.out; have hnc81 := NB250_265.out; have hnb82 := NB265_264.out; have hnc82 := NB264_265.out; obtain ⟨hcz83_0, hcz83_1, hfz83_0, hfz83_1⟩ := cells2 BK265; go_wp2
           go_meet
           case rel => exact ⟨_, (t262), (t263), H', ⟨by have := HJ2.out; have := HJ19.out; have := HJ28.out; first | omega | exact Nat.le_refl _⟩, ⟨kz BK250⟩, ⟨kz BK251⟩, ⟨kz BK264⟩, ⟨by (with_reducible repeat (first | refine blk_drewN ?_ _ | refine blk_drew ?_ | refine blk_alloc ?_ _)); refine blk_put (cs := #[.int .i64 t262, .int .i64 t259]) ?_ 1 _ rfl; (with_reducible repeat (first | refine blk_drewN ?_ _ | refine blk_drew ?_ | refine blk_alloc ?_ _)); refine blk_put (cs := #[.int .i64 t258, .int .i64 t259]) ?_ 0 _ rfl; (with_reducible repeat (first | refine blk_drewN ?_ _ | refine blk_drew ?_ | refine blk_alloc ?_ _)); exact BK265.out⟩, ⟨bzs⟩⟩
          ·replace c76 := Bool.eq_false_iff.mpr c76; subst c76; replace H := iff_ H; have H' := Aside0.mk H; clear H; go_wp2
           go_meet
           case rel => exact ⟨_, (t258), (t259), H', ⟨by have := HJ2.out; have := HJ19.out; have := HJ28.out; first | omega | exact Nat.le_refl _⟩, ⟨kz BK250⟩, ⟨kz BK251⟩, ⟨kz BK264⟩, ⟨kz BK265⟩, ⟨bzs⟩⟩
         case rest =>
          clear HC67; (try clear c1); (try clear c2); (try clear p2); (try clear c5); (try clear c6); (try clear c7); (try clear c8); (try clear c9); (try clear c14); (try clear c15); (try clear c16); (try clear c17); (try clear c24); (try clear c24b0); (try clear c24b1); (try clear c25); (try clear c50); (try clear c51); (try clear c52); (try clear c54); (try clear c55); (try clear c58); (try clear c59); (try clear c60); (try clear c61); (try clear c63); (try clear c64); (try clear c68); (try clear c69); (try clear c70); (try clear c72); (try clear c73); (try clear c76); (try clear c77); (try clear c78); (try clear c79); (try clear c81); (try clear c82); (try clear hcz10_0); (try clear hcz10_1); (try clear hcz10_2); (try clear hcz10_3); (try clear hcz12_0); (try clear hcz12_1); (try clear hcz12_2); (try clear hcz12_3); (try clear hcz15_0); (try clear hcz15_1); (try clear hcz15_2); (try clear hcz15_3); (try clear hcz53_0); (try clear hcz53_1); (try clear hcz56_0); (try clear hcz56_1); (try clear hcz56_2); (try clear hcz56_3); (try clear hcz62_0); (try clear hcz62_1); (try clear hcz62_2); (try clear hcz62_3); (try clear hcz65_0); (try clear hcz65_1); (try clear hcz71_0); (try clear hcz71_1); (try clear hcz71_2); (try clear hcz71_3); (try clear hcz74_0); (try clear hcz74_1); (try clear hcz80_0); (try clear hcz80_1); (try clear hcz80_2); (try clear hcz80_3); (try clear hcz83_0); (try clear hcz83_1); (try clear hfz10_0); (try clear hfz10_1); (try clear hfz10_2); (try clear hfz10_3)
          (try clear hfz12_0); (try clear hfz12_1); (try clear hfz12_2); (try clear hfz12_3); (try clear hfz15_0); (try clear hfz15_1); (try clear hfz15_2); (try clear hfz15_3); (try clear hfz53_0); (try clear hfz53_1); (try clear hfz56_0); (try clear hfz56_1); (try clear hfz56_2); (try clear hfz56_3); (try clear hfz62_0); (try clear hfz62_1); (try clear hfz62_2); (try clear hfz62_3); (try clear hfz65_0); (try clear hfz65_1); (try clear hfz71_0); (try clear hfz71_1); (try clear hfz71_2); (try clear hfz71_3); (try clear hfz74_0); (try clear hfz74_1); (try clear hfz80_0); (try clear hfz80_1); (try clear hfz80_2); (try clear hfz80_3); (try clear hfz83_0); (try clear hfz83_1); (try clear p2); obtain ⟨kq, x266000_66, x266001_66, HA, HJ66, BK250, BK251, BK264, BK265, HB⟩ := hcut
          cases kq with
          | zero => exact absurd HA.out (by simp [impl_HowMeet.j3])
          | succ kj66 =>
           have H := HA.out; clear HA; simp only [impl_HowMeet.j3] at H; replace H := Option.bind_eq_some_iff.mp H; obtain ⟨t268, A840, H⟩ := H; have A84 := Aside0.mk A840; clear A840
           by_cases c85 : t268 = true
           ·subst c85; replace H := ift H; obtain rfl := Option.some.inj H; have hnb86 := NB265_250.out; have hnc86 := NB250_265.out; have hnb87 := NB265_251.out; have hnc87 := NB251_265.out; have hnb88 := NB265_264.out; have hnc88 := NB264_265.out; obtain ⟨hcz89_0, hcz89_1, hfz89_0, hfz89_1⟩ := cells2 BK265; have hnb90 := NB264_250.out; have hnc90 := NB250_264.out; have hnb91 := NB264_251.out; have hnc91 := NB251_264.out; obtain ⟨hcz92_0, hcz92_1, hfz92_0, hfz92_1⟩ := cells2 BK264; go_wp2_with (first | ((with_reducible refine gt (some 60) rfl ?_); refine gc Try.func170 (impl_BeforePoint.calls x266000_66 x266001_66 x265000_28 x265001_28 true _ A84.out) ?_; rintro e w93 ⟨rfl, hb⟩; refine ⟨_, rfl, ?_⟩; replace BK250 := Aside0.mk (bbz BK250 hb); replace BK251 := Aside0.mk (bbz BK251 hb); replace BK264 := Aside0.mk (bbz BK264 hb); replace BK265 := Aside0.mk (bbz BK265 hb); replace HB := Aside0.mk (below_step bzs hb); (try clear hb))); go_ret
            exact ⟨ez, bzs⟩
           ·replace c85 := Bool.eq_false_iff.mpr c85; subst c85; replace H := iff_ H
            by_cases c94 : (x265000_28 == x266000_66 && (x265001_28 == x266001_66)) = true
            ·rw [if_pos c94] at H; have c94b0 : (x265000_28 == x266000_66 && (x265001_28 == x266001_66)) = true := c94; (try (have c94b1 : decide (x265000_28 = x266000_66 && (x265001_28 == x266001_66)) = true := by simpa using c94)); (try (have c94b2 : (x265000_28 == x266000_66 && (x265001_28 == x266001_66)) = true := by simpa using c94)); clear c94; obtain rfl := Option.some.inj H; have hnb95 := NB265_250.out; have hnc95 := NB250_265.out; have hnb96 := NB265_251.out; have hnc96 := NB251_265.out; have hnb97 := NB265_264.out; have hnc97 := NB264_265.out; obtain ⟨hcz98_0, hcz98_1, hfz98_0, hfz98_1⟩ := cells2 BK265; have hnb99 := NB264_250.out; have hnc99 := NB250_264.out; have hnb100 := NB264_251.out; have hnc100 := NB251_264.out; obtain ⟨hcz101_0, hcz101_1, hfz101_0, hfz101_1⟩ := cells2 BK264; go_wp2_with (first | ((with_reducible refine gt (some 60) rfl ?_); refine gc Try.func170 (impl_BeforePoint.calls x266000_66 x266001_66 x265000_28 x265001_28 false _ A84.out) ?_; rintro e w102 ⟨rfl, hb⟩; refine ⟨_, rfl, ?_⟩; replace BK250 := Aside0.mk (bbz BK250 hb); replace BK251 := Aside0.mk (bbz BK251 hb); replace BK264 := Aside0.mk (bbz BK264 hb); replace BK265 := Aside0.mk (bbz BK265 hb); replace HB := Aside0.mk (below_step bzs hb); (try clear hb); obtain ⟨hcz103_0, hcz103_1, hfz103_0, hfz103_1⟩ := cells2 BK264; obtain ⟨hcz104_0, hcz104_1, hfz104_0, hfz104_1⟩ := cells2 BK265)); go_ret
             exact ⟨ez, bzs⟩
            ·rw [if_neg c94] at H; have c94b0 : (x265000_28 == x266000_66 && (x265001_28 == x266001_66)) = false := by simpa using c94
             (try (have c94b1 : decide (x265000_28 = x266000_66 && (x265001_28 == x266001_66)) = false := by simpa using c94)); (try (have c94b2 : (x265000_28 == x266000_66 && (x265001_28 == x266001_66)) = false := by simpa using c94)); (try (have c94b3 : ¬ (x265000_28 = x266000_66 && (x265001_28 == x266001_66)) := by simpa using c94)); clear c94; obtain rfl := Option.some.inj H; have hnb105 := NB265_250.out; have hnc105 := NB250_265.out; have hnb106 := NB265_251.out; have hnc106 := NB251_265.out; have hnb107 := NB265_264.out; have hnc107 := NB264_265.out; obtain ⟨hcz108_0, hcz108_1, hfz108_0, hfz108_1⟩ := cells2 BK265; have hnb109 := NB264_250.out; have hnc109 := NB250_264.out; have hnb110 := NB264_251.out; have hnc110 := NB251_264.out; obtain ⟨hcz111_0, hcz111_1, hfz111_0, hfz111_1⟩ := cells2 BK264; go_wp2_with (first | ((with_reducible refine gt (some 60) rfl ?_); refine gc Try.func170 (impl_BeforePoint.calls x266000_66 x266001_66 x265000_28 x265001_28 false _ A84.out) ?_; rintro e w112 ⟨rfl, hb⟩; refine ⟨_, rfl, ?_⟩; replace BK250 := Aside0.mk (bbz BK250 hb); replace BK251 := Aside0.mk (bbz BK251 hb); replace BK264 := Aside0.mk (bbz BK264 hb); replace BK265 := Aside0.mk (bbz BK265 hb); replace HB := Aside0.mk (below_step bzs hb); (try clear hb); obtain ⟨hcz113_0, hcz113_1, hfz113_0, hfz113_1⟩ := cells2 BK264; obtain ⟨hcz114_0, hcz114_1, hfz114_0, hfz114_1⟩ := cells2 BK265)); go_ret
             exact ⟨ez, bzs⟩
      ·replace c25 := Bool.eq_false_iff.mpr c25; subst c25; replace H := iff_ H; have HC115 := Aside0.mk H; clear H
       go_upto_region 16 with (fail)
       go_cut [86] (fun v86 wc => ∃ (kq : Nat) (x86_114 : Bool), v86 = .bool x86_114 ∧ Aside0 (impl_HowMeet.j4 kq x86_114 a0_0 a0_1 a0_2 a0_3 a1_0 a1_1 a1_2 a1_3 = some r) ∧ Aside0 (kq ≤ kj19) ∧ Aside0 (wc.heap[gb250]? = some (.cells #[.int .i64 a0_0, .int .i64 a0_1, .int .i64 a0_2, .int .i64 a0_3] 85 (0, 0))) ∧ Aside0 (wc.heap[gb251]? = some (.cells #[.int .i64 a1_0, .int .i64 a1_1, .int .i64 a1_2, .int .i64 a1_3] 85 (0, 0))) ∧ Aside0 (Below w.heap.size w wc))
       case first =>
        have H := HC115.out; clear HC115
        by_cases c116 : (wrap64 (t254 * t255)) < 0
        ·rw [if_pos c116] at H; have c116b0 := decide_eq_true c116; clear c116
         (first | rw [c116b0] | (simp only [i64_w, i32_w]; rw [c116b0]) | skip)
         replace H := Option.bind_eq_some_iff.mp H; obtain ⟨t269, A1170, H⟩ := H; have A117 := Aside0.mk A1170; clear A1170; replace H := Option.bind_eq_some_iff.mp H; obtain ⟨t270, A1180, H⟩ := H; have A118 := Aside0.mk A1180; clear A1180; have H' := Aside0.mk H; clear H; (try go_wp2); replace BK250 := Aside0.mk (blk_drew BK250.out); replace BK251 := Aside0.mk (blk_drew BK251.out); replace HB := Aside0.mk (below_drew1 HB.out); refine start_ (n := 22) (S := fun w' => w'.cell? ⟨gb251, 0, none⟩ = some (.int .i64 a1_0) ∧ w'.cell? ⟨gb251, 1, none⟩ = some (.int .i64 a1_1) ∧ w'.cell? ⟨gb251, 2, none⟩ = some (.int .i64 a1_2) ∧ w'.cell? ⟨gb251, 3, none⟩ = some (.int .i64 a1_3) ∧ w'.cell? ⟨gb250, 0, none⟩ = some (.int .i64 a0_0) ∧ w'.cell? ⟨gb250, 1, none⟩ = some (.int .i64 a0_1) ∧ w'.cell? ⟨gb250, 2, none⟩ = some (.int .i64 a0_2) ∧ w'.cell? ⟨gb250, 3, none⟩ = some (.int .i64 a0_3)) (ds := []) #[F,F,F,F,F,F,F,F,F,F,F,F,F,F,F,F,F,F,F,F,F,F] (by kernel_rfl) rfl rfl ⟨bc BK251 0, bc BK251 1, bc BK251 2, bc BK251 3, bc BK250 0, bc BK250 1, bc BK250 2, bc BK250 3⟩ (fun hHeld => ?_); refine with_tabW impl_HowMeet.tab16 impl_HowMeet.bits16 (fun HT_ HW_ => ?_); generalize wc.drew = w119 at BK250 BK251 HB hHeld ⊢; refine pz HT_ 0 65 ?_; refine pz HT_ 1 66 ?_; refine pz HT_ 2 67 ?_; refine pz HT_ 3 68 ?_; refine pz HT_ 4 69 ?_; refine pz HT_ 5 70 ?_; refine pz HT_ 7 72 ?_; refine pz HT_ 9 74 ?_; refine pz HT_ 12 77 ?_; refine pz HT_ 14 79 ?_; refine pz HT_ 16 81 ?_; refine tz8 HT_ HW_ hHeld 6 71 ?_; refine tz8 HT_ HW_ hHeld 8 73 ?_; refine tz8 HT_ HW_ hHeld 10 75 ?_; refine tz8 HT_ HW_ hHeld 13 78 ?_; refine tz8 HT_ HW_ hHeld 15 80 ?_; refine tz8 HT_ HW_ hHeld 17 82 ?_
         refine oz HT_ 11 (some 76) (fun K hK => ?_); refine gz Try.func167 #[.agg #[.int .i64 a1_0, .int .i64 a1_1], .agg #[.int .i64 a1_2, .int .i64 a1_3], .agg #[.int .i64 a0_0, .int .i64 a0_1]] ?_
         with_reducible refine (impl_SideOf.calls a1_0 a1_1 a1_2 a1_3 a0_0 a0_1 t269 _ A117.out).mono ?_
         rintro e w120 ⟨rfl, hb⟩; refine ⟨_, rfl, ?_⟩; replace BK250 := Aside0.mk (bbz BK250 hb); replace BK251 := Aside0.mk (bbz BK251 hb); replace HB := Aside0.mk (below_step bzs hb); (try clear hb); (try clear hb2); (try clear hk); (try clear hi); refine hK.out _ _ ⟨bc BK251 0, bc BK251 1, bc BK251 2, bc BK251 3, bc BK250 0, bc BK250 1, bc BK250 2, bc BK250 3⟩ (fun hHeld => ?_); clear hK K; refine nz 76 ?_; refine oz HT_ 18 (some 83) (fun K hK => ?_); refine gz Try.func167 #[.agg #[.int .i64 a1_0, .int .i64 a1_1], .agg #[.int .i64 a1_2, .int .i64 a1_3], .agg #[.int .i64 a0_2, .int .i64 a0_3]] ?_
         with_reducible refine (impl_SideOf.calls a1_0 a1_1 a1_2 a1_3 a0_2 a0_3 t270 _ A118.out).mono ?_
         rintro e w121 ⟨rfl, hb⟩; refine ⟨_, rfl, ?_⟩; replace BK250 := Aside0.mk (bbz BK250 hb); replace BK251 := Aside0.mk (bbz BK251 hb); replace HB := Aside0.mk (below_step bzs hb); (try clear hb); (try clear hb2); (try clear hk); (try clear hi); refine hK.out _ _ ⟨bc BK251 0, bc BK251 1, bc BK251 2, bc BK251 3, bc BK250 0, bc BK250 1, bc BK250 2, bc BK250 3⟩ (fun hHeld => ?_); clear hK K; refine nz 83 ?_; refine pz HT_ 19 84 ?_; refine pz HT_ 20 85 ?_; refine pz HT_ 21 86 ?_; refine dz HT_ ?_; (try go_wp2)
         go_meet
         case rel => exact ⟨_, (decide ((wrap64 (t269 * t270)) < 0)), rz, H', ⟨by have := HJ2.out; have := HJ19.out; first | omega | exact Nat.le_refl _⟩, ⟨kz BK250⟩, ⟨kz BK251⟩, ⟨bzs⟩⟩
        ·rw [if_neg c116] at H; have c116b0 := decide_eq_false c116; clear c116
         (first | rw [c116b0] | (simp only [i64_w, i32_w]; rw [c116b0]) | skip)
         have H' := Aside0.mk H; clear H; (try go_wp2); replace BK250 := Aside0.mk (blk_drew BK250.out); replace BK251 := Aside0.mk (blk_drew BK251.out); replace HB := Aside0.mk (below_drew1 HB.out); refine start_ (n := 22) (S := fun w' => True) (ds := []) #[F,F,F,F,F,F,F,F,F,F,F,F,F,F,F,F,F,F,F,F,F,F] (by kernel_rfl) rfl rfl trivial (fun hHeld => ?_); refine with_tabW impl_HowMeet.tab16 impl_HowMeet.bits16 (fun HT_ HW_ => ?_); generalize wc.drew = w122 at BK250 BK251 HB hHeld ⊢; refine pz HT_ 0 65 ?_; refine pz HT_ 1 66 ?_; refine pz HT_ 2 67 ?_; refine pz HT_ 3 68 ?_; refine pz HT_ 4 69 ?_; refine uz HT_ 5 70 ?_; refine uz HT_ 6 71 ?_; refine uz HT_ 7 72 ?_; refine uz HT_ 8 73 ?_; refine uz HT_ 9 74 ?_; refine uz HT_ 10 75 ?_; refine uz HT_ 11 76 ?_; refine uz HT_ 12 77 ?_; refine uz HT_ 13 78 ?_; refine uz HT_ 14 79 ?_; refine uz HT_ 15 80 ?_; refine uz HT_ 16 81 ?_; refine uz HT_ 17 82 ?_; refine uz HT_ 18 83 ?_; refine uz HT_ 19 84 ?_; refine uz HT_ 20 85 ?_; refine pz HT_ 21 86 ?_; refine dz HT_ ?_; (try go_wp2)
         go_meet
         case rel => exact ⟨_, (false), rz, H', ⟨by have := HJ2.out; have := HJ19.out; first | omega | exact Nat.le_refl _⟩, ⟨kz BK250⟩, ⟨kz BK251⟩, ⟨bzs⟩⟩
       case rest =>
        clear HC115; (try clear c1); (try clear c2); (try clear p2); (try clear c5); (try clear c6); (try clear p6); (try clear c7); (try clear c8); (try clear c9); (try clear c10); (try clear c11); (try clear c15); (try clear c16); (try clear c17); (try clear c24); (try clear c24b0); (try clear c24b1); (try clear c25); (try clear c50); (try clear c51); (try clear c52); (try clear c54); (try clear c55); (try clear c58); (try clear c59); (try clear c60); (try clear c61); (try clear c63); (try clear c64); (try clear p64); (try clear c68); (try clear c69); (try clear c70); (try clear c72); (try clear c73); (try clear c76); (try clear c77); (try clear c78); (try clear c79); (try clear c81); (try clear c82); (try clear c85); (try clear c86); (try clear c87); (try clear c88); (try clear c90); (try clear c91); (try clear c94); (try clear c94b0); (try clear c94b1); (try clear c94b2); (try clear c95); (try clear c96); (try clear c97); (try clear c99); (try clear c100); (try clear c105); (try clear c106); (try clear c107); (try clear c109); (try clear c110); (try clear c116); (try clear c116b0); (try clear hcz101_0); (try clear hcz101_1); (try clear hcz103_0); (try clear hcz103_1); (try clear hcz104_0); (try clear hcz104_1); (try clear hcz108_0); (try clear hcz108_1); (try clear hcz10_0); (try clear hcz10_1); (try clear hcz10_2); (try clear hcz10_3); (try clear hcz111_0); (try clear hcz111_1); (try clear hcz113_0); (try clear hcz113_1); (try clear hcz114_0); (try clear hcz114_1); (try clear hcz12_0)
        (try clear hcz12_1); (try clear hcz12_2); (try clear hcz12_3); (try clear hcz15_0); (try clear hcz15_1); (try clear hcz15_2); (try clear hcz15_3); (try clear hcz53_0); (try clear hcz53_1); (try clear hcz56_0); (try clear hcz56_1); (try clear hcz56_2); (try clear hcz56_3); (try clear hcz62_0); (try clear hcz62_1); (try clear hcz62_2); (try clear hcz62_3); (try clear hcz65_0); (try clear hcz65_1); (try clear hcz71_0); (try clear hcz71_1); (try clear hcz71_2); (try clear hcz71_3); (try clear hcz74_0); (try clear hcz74_1); (try clear hcz80_0); (try clear hcz80_1); (try clear hcz80_2); (try clear hcz80_3); (try clear hcz83_0); (try clear hcz83_1); (try clear hcz89_0); (try clear hcz89_1); (try clear hcz92_0); (try clear hcz92_1); (try clear hcz98_0); (try clear hcz98_1); (try clear hfz101_0); (try clear hfz101_1); (try clear hfz103_0); (try clear hfz103_1); (try clear hfz104_0); (try clear hfz104_1); (try clear hfz108_0); (try clear hfz108_1); (try clear hfz10_0); (try clear hfz10_1); (try clear hfz10_2); (try clear hfz10_3); (try clear hfz111_0); (try clear hfz111_1); (try clear hfz113_0); (try clear hfz113_1); (try clear hfz114_0); (try clear hfz114_1); (try clear hfz12_0); (try clear hfz12_1); (try clear hfz12_2); (try clear hfz12_3); (try clear hfz15_0); (try clear hfz15_1); (try clear hfz15_2); (try clear hfz15_3); (try clear hfz53_0); (try clear hfz53_1); (try clear hfz56_0); (try clear hfz56_1); (try clear hfz56_2); (try clear hfz56_3); (try clear hfz62_0); (try clear hfz62_1)
        (try clear hfz62_2); (try clear hfz62_3); (try clear hfz65_0); (try clear hfz65_1); (try clear hfz71_0); (try clear hfz71_1); (try clear hfz71_2); (try clear hfz71_3); (try clear hfz74_0); (try clear hfz74_1); (try clear hfz80_0); (try clear hfz80_1); (try clear hfz80_2); (try clear hfz80_3); (try clear hfz83_0); (try clear hfz83_1); (try clear hfz89_0); (try clear hfz89_1); (try clear hfz92_0); (try clear hfz92_1); (try clear hfz98_0); (try clear hfz98_1); (try clear p2); obtain ⟨kq, x86_114, rfl, HA, HJ114, BK250, BK251, HB⟩ := hcut
        cases kq with
        | zero => exact absurd HA.out (by simp [impl_HowMeet.j4])
        | succ kj114 =>
         have H := HA.out; clear HA; simp only [impl_HowMeet.j4] at H
         by_cases c123 : x86_114 = true
         ·subst c123; replace H := ift H; obtain rfl := Option.some.inj H; go_wp2; go_ret
          exact ⟨ez, bzs⟩
         ·replace c123 := Bool.eq_false_iff.mpr c123; subst c123; replace H := iff_ H; replace H := Option.bind_eq_some_iff.mp H; obtain ⟨t271, A1240, H⟩ := H; have A124 := Aside0.mk A1240; clear A1240
          by_cases c125 : t271 = true
          ·subst c125; replace H := ift H; obtain rfl := Option.some.inj H; have hnb126 := NB250_251.out; have hnc126 := NB251_250.out; obtain ⟨hcz127_0, hcz127_1, hcz127_2, hcz127_3, hfz127_0, hfz127_1, hfz127_2, hfz127_3⟩ := cells4 BK250; obtain ⟨hcz128_0, hcz128_1, hcz128_2, hcz128_3, hfz128_0, hfz128_1, hfz128_2, hfz128_3⟩ := cells4 BK251; go_wp2_with (first | ((with_reducible refine gt (some 90) rfl ?_); refine gc Try.func171 (impl_IsOn.calls a0_0 a0_1 a0_2 a0_3 a1_0 a1_1 true _ A124.out) ?_; rintro e w129 ⟨rfl, hb⟩; refine ⟨_, rfl, ?_⟩; replace BK250 := Aside0.mk (bbz BK250 hb); replace BK251 := Aside0.mk (bbz BK251 hb); replace HB := Aside0.mk (below_step bzs hb); (try clear hb))); go_ret
           exact ⟨ez, bzs⟩
          ·replace c125 := Bool.eq_false_iff.mpr c125; subst c125; replace H := iff_ H; replace H := Option.bind_eq_some_iff.mp H; obtain ⟨t272, A1300, H⟩ := H; have A130 := Aside0.mk A1300; clear A1300
           by_cases c131 : t272 = true
           ·subst c131; replace H := ift H; obtain rfl := Option.some.inj H; have hnb132 := NB250_251.out; have hnc132 := NB251_250.out; obtain ⟨hcz133_0, hcz133_1, hcz133_2, hcz133_3, hfz133_0, hfz133_1, hfz133_2, hfz133_3⟩ := cells4 BK250; obtain ⟨hcz134_0, hcz134_1, hcz134_2, hcz134_3, hfz134_0, hfz134_1, hfz134_2, hfz134_3⟩ := cells4 BK251; go_wp2_with (first | ((with_reducible refine gt (some 90) rfl ?_); refine gc Try.func171 (impl_IsOn.calls a0_0 a0_1 a0_2 a0_3 a1_0 a1_1 false _ A124.out) ?_; rintro e w135 ⟨rfl, hb⟩; refine ⟨_, rfl, ?_⟩; replace BK250 := Aside0.mk (bbz BK250 hb); replace BK251 := Aside0.mk (bbz BK251 hb); replace HB := Aside0.mk (below_step bzs hb); (try clear hb); obtain ⟨hcz136_0, hcz136_1, hcz136_2, hcz136_3, hfz136_0, hfz136_1, hfz136_2, hfz136_3⟩ := cells4 BK250; obtain ⟨hcz137_0, hcz137_1, hcz137_2, hcz137_3, hfz137_0, hfz137_1, hfz137_2, hfz137_3⟩ := cells4 BK251) | (go_at_call 171; (with_reducible refine (impl_IsOn.calls a0_0 a0_1 a0_2 a0_3 a1_2 a1_3 true _ A130.out).mono ?_); rintro e w138 ⟨rfl, hb⟩; replace BK250 := Aside0.mk (bbz BK250 hb); replace BK251 := Aside0.mk (bbz BK251 hb); replace HB := Aside0.mk (below_step bzs hb); (try clear hb))); go_ret
            exact ⟨ez, bzs⟩
           ·replace c131 := Bool.eq_false_iff.mpr c131; subst c131; replace H := iff_ H; replace H := Option.bind_eq_some_iff.mp H; obtain ⟨t273, A1390, H⟩ := H; have A139 := Aside0.mk A1390; clear A1390
            by_cases c140 : t273 = true
            ·subst c140; replace H := ift H; obtain rfl := Option.some.inj H; have hnb141 := NB250_251.out; have hnc141 := NB251_250.out; obtain ⟨hcz142_0, hcz142_1, hcz142_2, hcz142_3, hfz142_0, hfz142_1, hfz142_2, hfz142_3⟩ := cells4 BK250; obtain ⟨hcz143_0, hcz143_1, hcz143_2, hcz143_3, hfz143_0, hfz143_1, hfz143_2, hfz143_3⟩ := cells4 BK251; go_wp2_with (first | ((with_reducible refine gt (some 90) rfl ?_); refine gc Try.func171 (impl_IsOn.calls a0_0 a0_1 a0_2 a0_3 a1_0 a1_1 false _ A124.out) ?_; rintro e w144 ⟨rfl, hb⟩; refine ⟨_, rfl, ?_⟩; replace BK250 := Aside0.mk (bbz BK250 hb); replace BK251 := Aside0.mk (bbz BK251 hb); replace HB := Aside0.mk (below_step bzs hb); (try clear hb); obtain ⟨hcz145_0, hcz145_1, hcz145_2, hcz145_3, hfz145_0, hfz145_1, hfz145_2, hfz145_3⟩ := cells4 BK250; obtain ⟨hcz146_0, hcz146_1, hcz146_2, hcz146_3, hfz146_0, hfz146_1, hfz146_2, hfz146_3⟩ := cells4 BK251) | (go_at_call 171; (with_reducible refine (impl_IsOn.calls a0_0 a0_1 a0_2 a0_3 a1_2 a1_3 false _ A130.out).mono ?_); rintro e w147 ⟨rfl, hb⟩; replace BK250 := Aside0.mk (bbz BK250 hb); replace BK251 := Aside0.mk (bbz BK251 hb); replace HB := Aside0.mk (below_step bzs hb); (try clear hb); obtain ⟨hcz148_0, hcz148_1, hcz148_2, hcz148_3, hfz148_0, hfz148_1, hfz148_2, hfz148_3⟩ := cells4 BK251; obtain ⟨hcz149_0, hcz149_1, hcz149_2, hcz149_3, hfz149_0, hfz149_1, hfz149_2, hfz149_3⟩ := cells4 BK250) | (go_at_call 171; (with_reducible refine (impl_IsOn.calls a1_0 a1_1 a1_2 a1_3 a0_0 a0_1 true _ A139.out).mono ?_); rintro e w150 ⟨rfl, hb⟩; replace BK250 := Aside0.mk (bbz BK250 hb); replace BK251 := Aside0.mk (bbz BK251 hb); replace HB := Aside0.mk (below_step bzs hb); (try clear hb)))
             go_ret
             exact ⟨ez, bzs⟩
            ·replace c140 := Bool.eq_false_iff.mpr c140; subst c140; replace H := iff_ H; replace H := Option.bind_eq_some_iff.mp H; obtain ⟨t274, A1510, H⟩ := H; have A151 := Aside0.mk A1510; clear A1510
             by_cases c152 : t274 = true
             ·subst c152; replace H := ift H; obtain rfl := Option.some.inj H; have hnb153 := NB250_251.out; have hnc153 := NB251_250.out; obtain ⟨hcz154_0, hcz154_1, hcz154_2, hcz154_3, hfz154_0, hfz154_1, hfz154_2, hfz154_3⟩ := cells4 BK250; obtain ⟨hcz155_0, hcz155_1, hcz155_2, hcz155_3, hfz155_0, hfz155_1, hfz155_2, hfz155_3⟩ := cells4 BK251; go_wp2_with (first | ((with_reducible refine gt (some 90) rfl ?_); refine gc Try.func171 (impl_IsOn.calls a0_0 a0_1 a0_2 a0_3 a1_0 a1_1 false _ A124.out) ?_; rintro e w156 ⟨rfl, hb⟩; refine ⟨_, rfl, ?_⟩; replace BK250 := Aside0.mk (bbz BK250 hb); replace BK251 := Aside0.mk (bbz BK251 hb); replace HB := Aside0.mk (below_step bzs hb); (try clear hb); obtain ⟨hcz157_0, hcz157_1, hcz157_2, hcz157_3, hfz157_0, hfz157_1, hfz157_2, hfz157_3⟩ := cells4 BK250; obtain ⟨hcz158_0, hcz158_1, hcz158_2, hcz158_3, hfz158_0, hfz158_1, hfz158_2, hfz158_3⟩ := cells4 BK251) | (go_at_call 171; (with_reducible refine (impl_IsOn.calls a0_0 a0_1 a0_2 a0_3 a1_2 a1_3 false _ A130.out).mono ?_); rintro e w159 ⟨rfl, hb⟩; replace BK250 := Aside0.mk (bbz BK250 hb); replace BK251 := Aside0.mk (bbz BK251 hb); replace HB := Aside0.mk (below_step bzs hb); (try clear hb); obtain ⟨hcz160_0, hcz160_1, hcz160_2, hcz160_3, hfz160_0, hfz160_1, hfz160_2, hfz160_3⟩ := cells4 BK251; obtain ⟨hcz161_0, hcz161_1, hcz161_2, hcz161_3, hfz161_0, hfz161_1, hfz161_2, hfz161_3⟩ := cells4 BK250) | (go_at_call 171; (with_reducible refine (impl_IsOn.calls a1_0 a1_1 a1_2 a1_3 a0_0 a0_1 false _ A139.out).mono ?_); rintro e w162 ⟨rfl, hb⟩; replace BK250 := Aside0.mk (bbz BK250 hb); replace BK251 := Aside0.mk (bbz BK251 hb); replace HB := Aside0.mk (below_step bzs hb); (try clear hb); obtain ⟨hcz163_0, hcz163_1, hcz163_2, hcz163_3, hfz163_0, hfz163_1, hfz163_2, hfz163_3⟩ := cells4 BK251; obtain ⟨hcz164_0, hcz164_1, hcz164_2, hcz164_3, hfz164_0, hfz164_1, hfz164_2, hfz164_3⟩ := cells4 BK250) | (go_at_call 171; (with_reducible refine (impl_IsOn.calls a1_0 a1_1 a1_2 a1_3 a0_2 a0_3 true _ A151.out).mono ?_); rintro e w165 ⟨rfl, hb⟩; replace BK250 := Aside0.mk (bbz BK250 hb); replace BK251 := Aside0.mk (bbz BK251 hb); replace HB := Aside0.mk (below_step bzs hb); (try clear hb)))
              go_ret
              exact ⟨ez, bzs⟩
             ·replace c152 := Bool.eq_false_iff.mpr c152; subst c152; replace H := iff_ H; obtain rfl := Option.some.inj H; have hnb166 := NB250_251.out; have hnc166 := NB251_250.out; obtain ⟨hcz167_0, hcz167_1, hcz167_2, hcz167_3, hfz167_0, hfz167_1, hfz167_2, hfz167_3⟩ := cells4 BK250; obtain ⟨hcz168_0, hcz168_1, hcz168_2, hcz168_3, hfz168_0, hfz168_1, hfz168_2, hfz168_3⟩ := cells4 BK251; go_wp2_with (first | ((with_reducible refine gt (some 90) rfl ?_); refine gc Try.func171 (impl_IsOn.calls a0_0 a0_1 a0_2 a0_3 a1_0 a1_1 false _ A124.out) ?_; rintro e w169 ⟨rfl, hb⟩; refine ⟨_, rfl, ?_⟩; replace BK250 := Aside0.mk (bbz BK250 hb); replace BK251 := Aside0.mk (bbz BK251 hb); replace HB := Aside0.mk (below_step bzs hb); (try clear hb); obtain ⟨hcz170_0, hcz170_1, hcz170_2, hcz170_3, hfz170_0, hfz170_1, hfz170_2, hfz170_3⟩ := cells4 BK250; obtain ⟨hcz171_0, hcz171_1, hcz171_2, hcz171_3, hfz171_0, hfz171_1, hfz171_2, hfz171_3⟩ := cells4 BK251) | (go_at_call 171; (with_reducible refine (impl_IsOn.calls a0_0 a0_1 a0_2 a0_3 a1_2 a1_3 false _ A130.out).mono ?_); rintro e w172 ⟨rfl, hb⟩; replace BK250 := Aside0.mk (bbz BK250 hb); replace BK251 := Aside0.mk (bbz BK251 hb); replace HB := Aside0.mk (below_step bzs hb); (try clear hb); obtain ⟨hcz173_0, hcz173_1, hcz173_2, hcz173_3, hfz173_0, hfz173_1, hfz173_2, hfz173_3⟩ := cells4 BK251; obtain ⟨hcz174_0, hcz174_1, hcz174_2, hcz174_3, hfz174_0, hfz174_1, hfz174_2, hfz174_3⟩ := cells4 BK250) | (go_at_call 171; (with_reducible refine (impl_IsOn.calls a1_0 a1_1 a1_2 a1_3 a0_0 a0_1 false _ A139.out).mono ?_); rintro e w175 ⟨rfl, hb⟩; replace BK250 := Aside0.mk (bbz BK250 hb); replace BK251 := Aside0.mk (bbz BK251 hb); replace HB := Aside0.mk (below_step bzs hb); (try clear hb); obtain ⟨hcz176_0, hcz176_1, hcz176_2, hcz176_3, hfz176_0, hfz176_1, hfz176_2, hfz176_3⟩ := cells4 BK251; obtain ⟨hcz177_0, hcz177_1, hcz177_2, hcz177_3, hfz177_0, hfz177_1, hfz177_2, hfz177_3⟩ := cells4 BK250) | (go_at_call 171; (with_reducible refine (impl_IsOn.calls a1_0 a1_1 a1_2 a1_3 a0_2 a0_3 false _ A151.out).mono ?_); rintro e w178 ⟨rfl, hb⟩; replace BK250 := Aside0.mk (bbz BK250 hb); replace BK251 := Aside0.mk (bbz BK251 hb); replace HB := Aside0.mk (below_step bzs hb); (try clear hb)))
              go_ret
              exact ⟨ez, bzs⟩
def impl_HowMeet.toH (t : Int) : HL eΓ [.i .i64] := (t, ())
def impl_HowMeet.run (k : Nat) (h : HL eΓ [.st .s85, .st .s85]) : Option (HL eΓ [.i .i64]) := (impl_HowMeet.f k ((h.1 : S85).f0.f0) ((h.1 : S85).f0.f1) ((h.1 : S85).f1.f0) ((h.1 : S85).f1.f1) ((h.2.1 : S85).f0.f0) ((h.2.1 : S85).f0.f1) ((h.2.1 : S85).f1.f0) ((h.2.1 : S85).f1.f1)).map impl_HowMeet.toH
def impl_HowMeet.spec : Spc env := ⟨152, [.st .s85, .st .s85], [.i .i64], impl_HowMeet.run⟩
def impl_HowMeet.ap {R : Type} (k : Nat) (h0 : S85) (h1 : S85) (K : Int → Option R) : Option R := (impl_HowMeet.run k (h0, h1, ())).bind fun r => K (r.1 : Int)
theorem impl_HowMeet.ap_of {R : Type} {k : Nat} {h0 : S85} {h1 : S85} {r0 : Int} {K : Int → Option R} (h : impl_HowMeet.run k (h0, h1, ()) = some (r0, ())) : impl_HowMeet.ap k h0 h1 K = K r0 := by unfold impl_HowMeet.ap; rw [h]; rfl
theorem impl_HowMeet.go {k : Nat} {a0_0 : Int} {a0_1 : Int} {a0_2 : Int} {a0_3 : Int} {a1_0 : Int} {a1_1 : Int} {a1_2 : Int} {a1_3 : Int} {t} (h : impl_HowMeet.f k a0_0 a0_1 a0_2 a0_3 a1_0 a1_1 a1_2 a1_3 = some t) (K : Nat) (hk : k ≤ K) : impl_HowMeet.run K ((⟨(⟨a0_0, a0_1⟩ : S82), (⟨a0_2, a0_3⟩ : S82)⟩ : S85), (⟨(⟨a1_0, a1_1⟩ : S82), (⟨a1_2, a1_3⟩ : S82)⟩ : S85), ()) = some (impl_HowMeet.toH t) := by
  show Option.map _ (impl_HowMeet.f K a0_0 a0_1 a0_2 a0_3 a1_0 a1_1 a1_2 a1_3) = _
  rw [leo_le (f := fun k => impl_HowMeet.f k a0_0 a0_1 a0_2 a0_3 a1_0 a1_1 a1_2 a1_3) (fun k => impl_HowMeet.mono a0_0 a0_1 a0_2 a0_3 a1_0 a1_1 a1_2 a1_3 k) hk h]; rfl
theorem impl_HowMeet.snd : Snd env impl_HowMeet.spec := ⟨⟨Try.f152, by kernel_rfl, by kernel_rfl, by kernel_rfl⟩, fun k h r he w us hA => by
  obtain ⟨t, ht, rfl⟩ := Option.map_eq_some_iff.1 (show (impl_HowMeet.f k ((h.1 : S85).f0.f0) ((h.1 : S85).f0.f1) ((h.1 : S85).f1.f0) ((h.1 : S85).f1.f1) ((h.2.1 : S85).f0.f0) ((h.2.1 : S85).f0.f1) ((h.2.1 : S85).f1.f0) ((h.2.1 : S85).f1.f1)).map impl_HowMeet.toH = some r from he)
  match us, hA with
  | [u0, u1], ⟨q0, q1, _⟩ =>
  obtain ⟨v0, rfl, q0⟩ := q0
  have q0 := (H85.K _ _ _).1 q0
  match e0 : v0.toList, q0 with
  | [c0_0, c0_1, c0_2, c0_3], ⟨p0_0, p0_1, p0_2, p0_3, _⟩ =>
  obtain rfl : v0 = #[c0_0, c0_1, c0_2, c0_3] := by rw [← Array.toArray_toList (xs := v0), e0]
  obtain rfl := List.singleton_inj.1 (show [c0_0] = [Value.int .i64 ((h.1 : S85).f0.f0)] from p0_0)
  obtain rfl := List.singleton_inj.1 (show [c0_1] = [Value.int .i64 ((h.1 : S85).f0.f1)] from p0_1)
  obtain rfl := List.singleton_inj.1 (show [c0_2] = [Value.int .i64 ((h.1 : S85).f1.f0)] from p0_2)
  obtain rfl := List.singleton_inj.1 (show [c0_3] = [Value.int .i64 ((h.1 : S85).f1.f1)] from p0_3)
  obtain ⟨v1, rfl, q1⟩ := q1
  have q1 := (H85.K _ _ _).1 q1
  match e1 : v1.toList, q1 with
  | [c1_0, c1_1, c1_2, c1_3], ⟨p1_0, p1_1, p1_2, p1_3, _⟩ =>
  obtain rfl : v1 = #[c1_0, c1_1, c1_2, c1_3] := by rw [← Array.toArray_toList (xs := v1), e1]
  obtain rfl := List.singleton_inj.1 (show [c1_0] = [Value.int .i64 ((h.2.1 : S85).f0.f0)] from p1_0)
  obtain rfl := List.singleton_inj.1 (show [c1_1] = [Value.int .i64 ((h.2.1 : S85).f0.f1)] from p1_1)
  obtain rfl := List.singleton_inj.1 (show [c1_2] = [Value.int .i64 ((h.2.1 : S85).f1.f0)] from p1_2)
  obtain rfl := List.singleton_inj.1 (show [c1_3] = [Value.int .i64 ((h.2.1 : S85).f1.f1)] from p1_3)
  refine (impl_HowMeet.calls (w := w) (h := ht) ).mono ?_
  rintro e w' ⟨he, hw⟩
  exact ⟨_, he, hw, [.int .i64 t], [fun _ => False], rfl, ⟨rfl, trivial⟩, by simp [DJ]⟩⟩
def impl_IsRing.Fs : List (Spc env) := [impl_around.spec, impl_IsSegment.spec, impl_HowMeet.spec]
def impl_IsRing.fin : St eΓ → Option (HL eΓ [.b]) := finR env Try.f114.results.toList [.b]
def impl_IsRing.cut : Nat → Option (List (Lv SC)) := lk [(5, [⟨3, none, false⟩, ⟨18, none, false⟩, ⟨19, none, false⟩]), (10, [⟨3, none, false⟩, ⟨4, none, false⟩, ⟨18, none, false⟩, ⟨19, none, false⟩, ⟨28, none, false⟩, ⟨29, none, false⟩])]
def impl_IsRing.ret (r0 : Bool) : Option (HL eΓ [.b]) := some (r0, ())
def impl_IsRing.p5 (k : Nat) (x18 : Int) (x19 : Int) (x3 : List S85) : Option (HL eΓ [.b]) := evM env impl_IsRing.Fs Try.f114.ntmps impl_IsRing.fin impl_IsRing.cut k [.code (sub_ [1, 1, 1, 0, 1, 0, 0, 0] (bodyOf Try.f114)), .code (sub_ [1, 1, 1, 0, 1, 0, 0, 1] (bodyOf Try.f114)), .lp (sub_ [1, 1, 1, 0, 1, 0, 0] (bodyOf Try.f114)), .blk 0, .code (sub_ [1, 1, 1, 1] (bodyOf Try.f114))] (mkSt [(3, .c (.sl 0)), (18, .c (.v (.int .i64 x18))), (19, .c (.v (.int .i64 x19)))] [.row .own 85 (.st .s85) x3])
def impl_IsRing.p10 (k : Nat) (x4 : Int) (x18 : Int) (x19 : Int) (x28 : Int) (x29 : Int) (x3 : List S85) : Option (HL eΓ [.b]) := evM env impl_IsRing.Fs Try.f114.ntmps impl_IsRing.fin impl_IsRing.cut k [.code (sub_ [1, 1, 1, 0, 1, 0, 0, 1, 1, 0, 0, 1, 1, 1, 0, 0, 0] (bodyOf Try.f114)), .code (sub_ [1, 1, 1, 0, 1, 0, 0, 1, 1, 0, 0, 1, 1, 1, 0, 0, 1] (bodyOf Try.f114)), .lp (sub_ [1, 1, 1, 0, 1, 0, 0, 1, 1, 0, 0, 1, 1, 1, 0, 0] (bodyOf Try.f114)), .blk 2, .blk 1, .code (sub_ [1, 1, 1, 0, 1, 0, 0, 1, 1, 1] (bodyOf Try.f114)), .lp (sub_ [1, 1, 1, 0, 1, 0, 0] (bodyOf Try.f114)), .blk 0, .code (sub_ [1, 1, 1, 1] (bodyOf Try.f114))] (mkSt [(3, .c (.sl 0)), (4, .c (.v (.int .i64 x4))), (18, .c (.v (.int .i64 x18))), (19, .c (.v (.int .i64 x19))), (28, .c (.v (.int .i64 x28))), (29, .c (.v (.int .i64 x29)))] [.row .own 85 (.st .s85) x3])
theorem impl_IsRing.e5 (k : Nat) (x18 : Int) (x19 : Int) (x3 : List S85) : impl_IsRing.p5 (k + 1) x18 x19 x3 = if x19 < x18 then (if 0 ≤ x19 then (if x19 < (x3.length : Int) then (impl_IsSegment.ap k (⟨(⟨(rd_T85 x3 x19).f0.f0, (rd_T85 x3 x19).f0.f1⟩ : S82), (⟨(rd_T85 x3 x19).f1.f0, (rd_T85 x3 x19).f1.f1⟩ : S82)⟩ : S85) fun r1 => if (!r1) = true then (impl_IsRing.ret false) else (impl_IsRing.p10 k x19 x18 x19 x19 0 x3)) else none) else none) else (impl_IsRing.ret true) := by kernel_rfl
theorem impl_IsRing.e10 (k : Nat) (x4 : Int) (x18 : Int) (x19 : Int) (x28 : Int) (x29 : Int) (x3 : List S85) : impl_IsRing.p10 (k + 1) x4 x18 x19 x28 x29 x3 = if x29 < x28 then (if x29 = (wrap64 (x4 - 1)) then (if 0 ≤ x4 then (if x4 < (x3.length : Int) then (if 0 ≤ x29 then (if x29 < (x3.length : Int) then (impl_HowMeet.ap k (⟨(⟨(rd_T85 x3 x4).f0.f0, (rd_T85 x3 x4).f0.f1⟩ : S82), (⟨(rd_T85 x3 x4).f1.f0, (rd_T85 x3 x4).f1.f1⟩ : S82)⟩ : S85) (⟨(⟨(rd_T85 x3 x29).f0.f0, (rd_T85 x3 x29).f0.f1⟩ : S82), (⟨(rd_T85 x3 x29).f1.f0, (rd_T85 x3 x29).f1.f1⟩ : S82)⟩ : S85) fun r1 => if ¬ r1 = 1 then (impl_IsRing.ret false) else (impl_IsRing.p10 k x4 x18 x19 x28 (wrap64 (x29 + 1)) x3)) else none) else none) else none) else none) else (if x29 = 0 then (if x4 = (wrap64 ((x3.length : Int) - 1)) then (if 0 ≤ x4 then (if x4 < (x3.length : Int) then (if 0 ≤ x29 then (if x29 < (x3.length : Int) then (impl_HowMeet.ap k (⟨(⟨(rd_T85 x3 x4).f0.f0, (rd_T85 x3 x4).f0.f1⟩ : S82), (⟨(rd_T85 x3 x4).f1.f0, (rd_T85 x3 x4).f1.f1⟩ : S82)⟩ : S85) (⟨(⟨(rd_T85 x3 x29).f0.f0, (rd_T85 x3 x29).f0.f1⟩ : S82), (⟨(rd_T85 x3 x29).f1.f0, (rd_T85 x3 x29).f1.f1⟩ : S82)⟩ : S85) fun r2 => if ¬ r2 = 1 then (impl_IsRing.ret false) else (impl_IsRing.p10 k x4 x18 x19 x28 (wrap64 (x29 + 1)) x3)) else none) else none) else none) else none) else (if 0 ≤ x4 then (if x4 < (x3.length : Int) then (if 0 ≤ x29 then (if x29 < (x3.length : Int) then (impl_HowMeet.ap k (⟨(⟨(rd_T85 x3 x4).f0.f0, (rd_T85 x3 x4).f0.f1⟩ : S82), (⟨(rd_T85 x3 x4).f1.f0, (rd_T85 x3 x4).f1.f1⟩ : S82)⟩ : S85) (⟨(⟨(rd_T85 x3 x29).f0.f0, (rd_T85 x3 x29).f0.f1⟩ : S82), (⟨(rd_T85 x3 x29).f1.f0, (rd_T85 x3 x29).f1.f1⟩ : S82)⟩ : S85) fun r3 => if ¬ r3 = 0 then (impl_IsRing.ret false) else (impl_IsRing.p10 k x4 x18 x19 x28 (wrap64 (x29 + 1)) x3)) else none) else none) else none) else none)) else (if 0 ≤ x4 then (if x4 < (x3.length : Int) then (if 0 ≤ x29 then (if x29 < (x3.length : Int) then (impl_HowMeet.ap k (⟨(⟨(rd_T85 x3 x4).f0.f0, (rd_T85 x3 x4).f0.f1⟩ : S82), (⟨(rd_T85 x3 x4).f1.f0, (rd_T85 x3 x4).f1.f1⟩ : S82)⟩ : S85) (⟨(⟨(rd_T85 x3 x29).f0.f0, (rd_T85 x3 x29).f0.f1⟩ : S82), (⟨(rd_T85 x3 x29).f1.f0, (rd_T85 x3 x29).f1.f1⟩ : S82)⟩ : S85) fun r4 => if ¬ r4 = 0 then (impl_IsRing.ret false) else (impl_IsRing.p10 k x4 x18 x19 x28 (wrap64 (x29 + 1)) x3)) else none) else none) else none) else none))) else (impl_IsRing.p5 k x18 (wrap64 (x19 + 1)) x3) := by kernel_rfl
def impl_IsRing.run (k : Nat) (h : HL eΓ [.l 82 (.st .s82)]) : Option (HL eΓ [.b]) := evF env impl_IsRing.Fs Try.f114 impl_IsRing.cut [.l 82 (.st .s82)] [.b] k h
theorem impl_IsRing.ef (k : Nat) (h0 : List S82) : impl_IsRing.run k (h0, ()) = if (h0.length : Int) < 3 then (impl_IsRing.ret false) else (if (h0.length : Int) > 10 then (impl_IsRing.ret false) else (impl_around.ap k h0 fun r1 => impl_IsRing.p5 k (r1.length : Int) 0 r1)) := by kernel_rfl
def impl_IsRing.toH (t : Bool) : HL eΓ [.b] := (t, ())
def impl_IsRing.spec : Spc env := ⟨114, [.l 82 (.st .s82)], [.b], impl_IsRing.run⟩
def impl_IsRing.ap {R : Type} (k : Nat) (h0 : List S82) (K : Bool → Option R) : Option R := (impl_IsRing.run k (h0, ())).bind fun r => K (r.1 : Bool)
theorem impl_IsRing.ap_of {R : Type} {k : Nat} {h0 : List S82} {r0 : Bool} {K : Bool → Option R} (h : impl_IsRing.run k (h0, ()) = some (r0, ())) : impl_IsRing.ap k h0 K = K r0 := by unfold impl_IsRing.ap; rw [h]; rfl
theorem impl_IsRing.snd : Snd env impl_IsRing.spec := evF_snd env_ok (sndC impl_around.snd (sndC impl_IsSegment.snd (sndC impl_HowMeet.snd (sndN)))) (by kernel_rfl) (by kernel_rfl) (by kernel_rfl)
attribute [local irreducible] impl_IsRing.run
theorem impl_IsRing.rt (a0 : Bool) : impl_IsRing.ret a0 = some (impl_IsRing.toH (a0)) := rfl
theorem impl_IsRing.br (n : Nat) : (∀ K, n ≤ K → ∀ (x18 : Int) (x19 : Int) (x3 : List S85) t, impl_IsRing.l0 n x3 x18 x19 = some t → impl_IsRing.p5 K x18 x19 x3 = some (impl_IsRing.toH t)) ∧ (∀ K, n ≤ K → ∀ (x4 : Int) (x18 : Int) (x19 : Int) (x28 : Int) (x29 : Int) (x3 : List S85) t, impl_IsRing.l1 n x3 x4 x18 x19 x28 x29 = some t → impl_IsRing.p10 K x4 x18 x19 x28 x29 x3 = some (impl_IsRing.toH t)) := by
  induction n using Nat.strongRecOn with
  | _ n ih =>
  refine ⟨fun K hK x18 x19 x3 t h => ?_, fun K hK x4 x18 x19 x28 x29 x3 t h => ?_⟩
  all_goals (rcases n with _ | k)
  all_goals (try (exact nos h))
  all_goals (obtain ⟨K, rfl⟩ : ∃ q, K = q + 1 := ⟨K - 1, by omega⟩)
  all_goals (first | rw [impl_IsRing.e5] | rw [impl_IsRing.e10])
  all_goals (try simp only [tq_nat])
  all_goals (try simp only [tq_eq])
  all_goals (simp only [impl_IsRing.l0, impl_IsRing.l1] at h)
  repeat' (with_reducible first
   | exact nos h
   | (cases some_inj h; exact impl_IsRing.rt _)
   | exact (ih _ (by omega)).1 _ (by omega) _ _ _ _ h
   | exact (ih _ (by omega)).2 _ (by omega) _ _ _ _ _ _ _ h
   | ((have q : impl_IsRing.j0 k _ _ = some _ := h; clear q); rcases k with _ | k <;> simp only [impl_IsRing.j0, reduceCtorEq] at h)
   | ((have q : impl_IsRing.j3 k _ _ _ _ _ _ _ _ _ = some _ := h; clear q); rcases k with _ | k <;> simp only [impl_IsRing.j3, reduceCtorEq] at h)
   | (simp only [Option.bind_some] at h)
   | (refine ite_by h (fun hc h => ?_) (fun hc h => ?_) <;> (try simp only [nrm] at hc))
   | refine itT ?_ (by first | assumption | omega | (simp only [nrm]; first | done | assumption | omega) | (simp only [nln] at hc ⊢; omega))
   | refine itF ?_ (by first | assumption | omega | (simp only [nrm]; first | done | assumption | omega) | (simp only [nln] at hc ⊢; omega))
   | (refine bind_by h (fun t ht h => ?_); (first | refine (impl_around.ap_of (impl_around.go ht _ (by omega))).trans ?_ | refine (impl_IsSegment.ap_of (impl_IsSegment.go ht _)).trans ?_ | refine (impl_HowMeet.ap_of (impl_HowMeet.go ht _ (by omega))).trans ?_); (try dsimp only at h ⊢))
   | (simp only [decide_not, Bool.decide_and, decide_true, Bool.and_true, Bool.not_and, beqI, Int.toNat_natCast, List.take_length] at h ⊢)
   | (exfalso; omega))
theorem impl_IsRing.go {k : Nat} {l0 : List S82} {t} (h : impl_IsRing.f k l0 = some t) (K : Nat) (hK : k ≤ K) : impl_IsRing.run K (l0, ()) = some (impl_IsRing.toH t) := by
  rw [impl_IsRing.ef]
  (try dsimp only)
  (try simp only [tq_nat])
  (try simp only [tq_eq])
  unfold impl_IsRing.f at h
  repeat' (with_reducible first
   | exact nos h
   | (cases some_inj h; exact impl_IsRing.rt _)
   | exact (impl_IsRing.br _).1 _ (by omega) _ _ _ _ h
   | exact (impl_IsRing.br _).2 _ (by omega) _ _ _ _ _ _ _ h
   | ((have q : impl_IsRing.j0 k _ _ = some _ := h; clear q); rcases k with _ | k <;> simp only [impl_IsRing.j0, reduceCtorEq] at h)
   | ((have q : impl_IsRing.j3 k _ _ _ _ _ _ _ _ _ = some _ := h; clear q); rcases k with _ | k <;> simp only [impl_IsRing.j3, reduceCtorEq] at h)
   | (simp only [Option.bind_some] at h)
   | (refine ite_by h (fun hc h => ?_) (fun hc h => ?_) <;> (try simp only [nrm] at hc))
   | refine itT ?_ (by first | assumption | omega | (simp only [nrm]; first | done | assumption | omega) | (simp only [nln] at hc ⊢; omega))
   | refine itF ?_ (by first | assumption | omega | (simp only [nrm]; first | done | assumption | omega) | (simp only [nln] at hc ⊢; omega))
   | (refine bind_by h (fun t ht h => ?_); (first | refine (impl_around.ap_of (impl_around.go ht _ (by omega))).trans ?_ | refine (impl_IsSegment.ap_of (impl_IsSegment.go ht _)).trans ?_ | refine (impl_HowMeet.ap_of (impl_HowMeet.go ht _ (by omega))).trans ?_); (try dsimp only at h ⊢))
   | (simp only [decide_not, Bool.decide_and, decide_true, Bool.and_true, Bool.not_and, beqI, Int.toNat_natCast, List.take_length] at h ⊢)
   | (exfalso; omega))
def impl_IsName.Fs : List (Spc env) := [impl_InRange.spec]
def impl_IsName.fin : St eΓ → Option (HL eΓ [.b]) := finR env Try.f122.results.toList [.b]
def impl_IsName.cut : Nat → Option (List (Lv SC)) := lk [(2, [⟨0, none, false⟩, ⟨5, none, false⟩, ⟨6, none, false⟩])]
def impl_IsName.ret (r0 : Bool) : Option (HL eΓ [.b]) := some (r0, ())
def impl_IsName.p2 (k : Nat) (x0 : ByteArray) (x5 : Int) (x6 : Int) : Option (HL eΓ [.b]) := evM env impl_IsName.Fs Try.f122.ntmps impl_IsName.fin impl_IsName.cut k [.code (sub_ [1, 0, 1, 0, 0, 0] (bodyOf Try.f122)), .code (sub_ [1, 0, 1, 0, 0, 1] (bodyOf Try.f122)), .lp (sub_ [1, 0, 1, 0, 0] (bodyOf Try.f122)), .blk 0, .code (sub_ [1, 1] (bodyOf Try.f122))] (mkSt [(0, .c (.v (.string x0))), (5, .c (.v (.int .i64 x5))), (6, .c (.v (.int .i64 x6)))] [])
theorem impl_IsName.e2 (k : Nat) (x0 : ByteArray) (x5 : Int) (x6 : Int) : impl_IsName.p2 (k + 1) x0 x5 x6 = if x6 < x5 then (if 0 ≤ x6 then (if x6 < (x0.size : Int) then (if (bt x0 x6) < 97 then (impl_IsName.ret false) else (if 0 ≤ x6 then (if x6 < (x0.size : Int) then (if (bt x0 x6) > 122 then (impl_IsName.ret false) else (impl_IsName.p2 k x0 x5 (wrap64 (x6 + 1)))) else none) else none)) else none) else none) else (impl_InRange.ap k (x0.size : Int) 1 8 fun r1 => impl_IsName.ret r1) := by kernel_rfl
def impl_IsName.run (k : Nat) (h : HL eΓ [.s]) : Option (HL eΓ [.b]) := evF env impl_IsName.Fs Try.f122 impl_IsName.cut [.s] [.b] k h
theorem impl_IsName.ef (k : Nat) (h0 : ByteArray) : impl_IsName.run k (h0, ()) = impl_IsName.p2 k h0 (h0.size : Int) 0 := by kernel_rfl
def impl_IsName.toH (t : Bool) : HL eΓ [.b] := (t, ())
def impl_IsName.spec : Spc env := ⟨122, [.s], [.b], impl_IsName.run⟩
def impl_IsName.ap {R : Type} (k : Nat) (h0 : ByteArray) (K : Bool → Option R) : Option R := (impl_IsName.run k (h0, ())).bind fun r => K (r.1 : Bool)
theorem impl_IsName.ap_of {R : Type} {k : Nat} {h0 : ByteArray} {r0 : Bool} {K : Bool → Option R} (h : impl_IsName.run k (h0, ()) = some (r0, ())) : impl_IsName.ap k h0 K = K r0 := by unfold impl_IsName.ap; rw [h]; rfl
theorem impl_IsName.snd : Snd env impl_IsName.spec := evF_snd env_ok (sndC impl_InRange.snd (sndN)) (by kernel_rfl) (by kernel_rfl) (by kernel_rfl)
attribute [local irreducible] impl_IsName.run
theorem impl_IsName.rt (a0 : Bool) : impl_IsName.ret a0 = some (impl_IsName.toH (a0)) := rfl
theorem impl_IsName.br (n : Nat) : (∀ K, n ≤ K → ∀ (x0 : ByteArray) (x5 : Int) (x6 : Int) t, impl_IsName.l0 n x0 x5 x6 = some t → impl_IsName.p2 K x0 x5 x6 = some (impl_IsName.toH t)) := by
  induction n using Nat.strongRecOn with
  | _ n ih =>
  intro K hK x0 x5 x6 t h
  all_goals (rcases n with _ | k)
  all_goals (try (exact nos h))
  all_goals (obtain ⟨K, rfl⟩ : ∃ q, K = q + 1 := ⟨K - 1, by omega⟩)
  all_goals (first | rw [impl_IsName.e2])
  all_goals (try simp only [tq_nat])
  all_goals (try simp only [tq_eq])
  all_goals (simp only [impl_IsName.l0] at h)
  repeat' (with_reducible first
   | exact nos h
   | (cases some_inj h; exact impl_IsName.rt _)
   | exact (ih _ (by omega)) _ (by omega) _ _ _ _ h
   | (simp only [Option.bind_some] at h)
   | (refine ite_by h (fun hc h => ?_) (fun hc h => ?_) <;> (try simp only [nrm] at hc))
   | refine itT ?_ (by first | assumption | omega | (simp only [nrm]; first | done | assumption | omega) | (simp only [nln] at hc ⊢; omega))
   | refine itF ?_ (by first | assumption | omega | (simp only [nrm]; first | done | assumption | omega) | (simp only [nln] at hc ⊢; omega))
   | (refine bind_by h (fun t ht h => ?_); refine (impl_InRange.ap_of (impl_InRange.go ht _)).trans ?_; (try dsimp only at h ⊢))
   | (simp only [decide_not, Bool.decide_and, decide_true, Bool.and_true, Bool.not_and, beqI, Int.toNat_natCast, List.take_length] at h ⊢)
   | (exfalso; omega))
theorem impl_IsName.go {k : Nat} {a0 : ByteArray} {t} (h : impl_IsName.f k a0 = some t) (K : Nat) (hK : k ≤ K) : impl_IsName.run K (a0, ()) = some (impl_IsName.toH t) := by
  rw [impl_IsName.ef]
  (try dsimp only)
  (try simp only [tq_nat])
  (try simp only [tq_eq])
  unfold impl_IsName.f at h
  repeat' (with_reducible first
   | exact nos h
   | (cases some_inj h; exact impl_IsName.rt _)
   | exact (impl_IsName.br _) _ (by omega) _ _ _ _ h
   | (simp only [Option.bind_some] at h)
   | (refine ite_by h (fun hc h => ?_) (fun hc h => ?_) <;> (try simp only [nrm] at hc))
   | refine itT ?_ (by first | assumption | omega | (simp only [nrm]; first | done | assumption | omega) | (simp only [nln] at hc ⊢; omega))
   | refine itF ?_ (by first | assumption | omega | (simp only [nrm]; first | done | assumption | omega) | (simp only [nln] at hc ⊢; omega))
   | (refine bind_by h (fun t ht h => ?_); refine (impl_InRange.ap_of (impl_InRange.go ht _)).trans ?_; (try dsimp only at h ⊢))
   | (simp only [decide_not, Bool.decide_and, decide_true, Bool.and_true, Bool.not_and, beqI, Int.toNat_natCast, List.take_length] at h ⊢)
   | (exfalso; omega))
def impl_IsLine.Fs : List (Spc env) := [impl_IsPoint.spec]
def impl_IsLine.fin : St eΓ → Option (HL eΓ [.b]) := finR env Try.f111.results.toList [.b]
def impl_IsLine.cut : Nat → Option (List (Lv SC)) := lk [(4, [⟨0, none, false⟩, ⟨13, none, false⟩, ⟨14, none, false⟩, ⟨15, none, false⟩])]
def impl_IsLine.ret (r0 : Bool) : Option (HL eΓ [.b]) := some (r0, ())
def impl_IsLine.p4 (k : Nat) (x14 : Int) (x15 : Int) (x0 : List S82) : Option (HL eΓ [.b]) := evM env impl_IsLine.Fs Try.f111.ntmps impl_IsLine.fin impl_IsLine.cut k [.code (sub_ [1, 1, 0, 1, 0, 0, 0] (bodyOf Try.f111)), .code (sub_ [1, 1, 0, 1, 0, 0, 1] (bodyOf Try.f111)), .lp (sub_ [1, 1, 0, 1, 0, 0] (bodyOf Try.f111)), .blk 0, .code (sub_ [1, 1, 1] (bodyOf Try.f111))] (mkSt [(0, .c (.sl 0)), (13, .c (.sl 0)), (14, .c (.v (.int .i64 x14))), (15, .c (.v (.int .i64 x15)))] [.row .ro 82 (.st .s82) x0])
theorem impl_IsLine.e4 (k : Nat) (x14 : Int) (x15 : Int) (x0 : List S82) : impl_IsLine.p4 (k + 1) x14 x15 x0 = if x15 < x14 then (if 0 ≤ x15 then (if x15 < (x0.length : Int) then (impl_IsPoint.ap k (⟨(rd_T82 x0 x15).f0, (rd_T82 x0 x15).f1⟩ : S82) fun r1 => if (!r1) = true then (impl_IsLine.ret false) else (if x15 > 0 then (if 0 ≤ (wrap64 (x15 - 1)) then (if (wrap64 (x15 - 1)) < (x0.length : Int) then (if ((rd_T82 x0 x15).f0) = ((rd_T82 x0 (wrap64 (x15 - 1))).f0) ∧ (((rd_T82 x0 x15).f1) = ((rd_T82 x0 (wrap64 (x15 - 1))).f1) ∧ True) then (impl_IsLine.ret false) else (impl_IsLine.p4 k x14 (wrap64 (x15 + 1)) x0)) else none) else none) else (impl_IsLine.p4 k x14 (wrap64 (x15 + 1)) x0))) else none) else none) else (impl_IsLine.ret true) := by kernel_rfl
def impl_IsLine.run (k : Nat) (h : HL eΓ [.l 82 (.st .s82)]) : Option (HL eΓ [.b]) := evF env impl_IsLine.Fs Try.f111 impl_IsLine.cut [.l 82 (.st .s82)] [.b] k h
theorem impl_IsLine.ef (k : Nat) (h0 : List S82) : impl_IsLine.run k (h0, ()) = if (h0.length : Int) < 2 then (impl_IsLine.ret false) else (if (h0.length : Int) > 10 then (impl_IsLine.ret false) else (impl_IsLine.p4 k (h0.length : Int) 0 h0)) := by kernel_rfl
def impl_IsLine.toH (t : Bool) : HL eΓ [.b] := (t, ())
def impl_IsLine.spec : Spc env := ⟨111, [.l 82 (.st .s82)], [.b], impl_IsLine.run⟩
def impl_IsLine.ap {R : Type} (k : Nat) (h0 : List S82) (K : Bool → Option R) : Option R := (impl_IsLine.run k (h0, ())).bind fun r => K (r.1 : Bool)
theorem impl_IsLine.ap_of {R : Type} {k : Nat} {h0 : List S82} {r0 : Bool} {K : Bool → Option R} (h : impl_IsLine.run k (h0, ()) = some (r0, ())) : impl_IsLine.ap k h0 K = K r0 := by unfold impl_IsLine.ap; rw [h]; rfl
theorem impl_IsLine.snd : Snd env impl_IsLine.spec := evF_snd env_ok (sndC impl_IsPoint.snd (sndN)) (by kernel_rfl) (by kernel_rfl) (by kernel_rfl)
attribute [local irreducible] impl_IsLine.run
theorem impl_IsLine.rt (a0 : Bool) : impl_IsLine.ret a0 = some (impl_IsLine.toH (a0)) := rfl
theorem impl_IsLine.br (n : Nat) : (∀ K, n ≤ K → ∀ (x14 : Int) (x15 : Int) (x0 : List S82) t, impl_IsLine.l0 n x0 x0 x14 x15 = some t → impl_IsLine.p4 K x14 x15 x0 = some (impl_IsLine.toH t)) := by
  induction n using Nat.strongRecOn with
  | _ n ih =>
  intro K hK x14 x15 x0 t h
  all_goals (rcases n with _ | k)
  all_goals (try (exact nos h))
  all_goals (obtain ⟨K, rfl⟩ : ∃ q, K = q + 1 := ⟨K - 1, by omega⟩)
  all_goals (first | rw [impl_IsLine.e4])
  all_goals (try simp only [tq_nat])
  all_goals (try simp only [tq_eq])
  all_goals (simp only [impl_IsLine.l0] at h)
  repeat' (with_reducible first
   | exact nos h
   | (cases some_inj h; exact impl_IsLine.rt _)
   | exact (ih _ (by omega)) _ (by omega) _ _ _ _ h
   | ((have q : impl_IsLine.j0 k _ _ = some _ := h; clear q); rcases k with _ | k <;> simp only [impl_IsLine.j0, reduceCtorEq] at h)
   | (simp only [Option.bind_some] at h)
   | (refine ite_by h (fun hc h => ?_) (fun hc h => ?_) <;> (try simp only [nrm] at hc))
   | refine itT ?_ (by first | assumption | omega | (simp only [nrm]; first | done | assumption | omega) | (simp only [nln] at hc ⊢; omega))
   | refine itF ?_ (by first | assumption | omega | (simp only [nrm]; first | done | assumption | omega) | (simp only [nln] at hc ⊢; omega))
   | (refine bind_by h (fun t ht h => ?_); refine (impl_IsPoint.ap_of (impl_IsPoint.go ht _)).trans ?_; (try dsimp only at h ⊢))
   | (simp only [decide_not, Bool.decide_and, decide_true, Bool.and_true, Bool.not_and, beqI, Int.toNat_natCast, List.take_length] at h ⊢)
   | (exfalso; omega))
theorem impl_IsLine.go {k : Nat} {l0 : List S82} {t} (h : impl_IsLine.f k l0 = some t) (K : Nat) (hK : k ≤ K) : impl_IsLine.run K (l0, ()) = some (impl_IsLine.toH t) := by
  rw [impl_IsLine.ef]
  (try dsimp only)
  (try simp only [tq_nat])
  (try simp only [tq_eq])
  unfold impl_IsLine.f at h
  repeat' (with_reducible first
   | exact nos h
   | (cases some_inj h; exact impl_IsLine.rt _)
   | exact (impl_IsLine.br _) _ (by omega) _ _ _ _ h
   | ((have q : impl_IsLine.j0 k _ _ = some _ := h; clear q); rcases k with _ | k <;> simp only [impl_IsLine.j0, reduceCtorEq] at h)
   | (simp only [Option.bind_some] at h)
   | (refine ite_by h (fun hc h => ?_) (fun hc h => ?_) <;> (try simp only [nrm] at hc))
   | refine itT ?_ (by first | assumption | omega | (simp only [nrm]; first | done | assumption | omega) | (simp only [nln] at hc ⊢; omega))
   | refine itF ?_ (by first | assumption | omega | (simp only [nrm]; first | done | assumption | omega) | (simp only [nln] at hc ⊢; omega))
   | (refine bind_by h (fun t ht h => ?_); refine (impl_IsPoint.ap_of (impl_IsPoint.go ht _)).trans ?_; (try dsimp only at h ⊢))
   | (simp only [decide_not, Bool.decide_and, decide_true, Bool.and_true, Bool.not_and, beqI, Int.toNat_natCast, List.take_length] at h ⊢)
   | (exfalso; omega))
def impl_SegmentsOf.Fs : List (Spc env) := [impl_IsLine.spec]
def impl_SegmentsOf.fin : St eΓ → Option (HL eΓ [.l 85 (.st .s85)]) := finR env Try.f126.results.toList [.l 85 (.st .s85)]
def impl_SegmentsOf.cut : Nat → Option (List (Lv SC)) := lk [(5, [⟨0, none, false⟩, ⟨3, none, false⟩, ⟨4, none, false⟩])]
def impl_SegmentsOf.ret (r0 : List S85) : Option (HL eΓ [.l 85 (.st .s85)]) := some (r0, ())
def impl_SegmentsOf.p5 (k : Nat) (x4 : Int) (x0 : List S82) (x3 : List S85) : Option (HL eΓ [.l 85 (.st .s85)]) := evM env impl_SegmentsOf.Fs Try.f126.ntmps impl_SegmentsOf.fin impl_SegmentsOf.cut k [.code (sub_ [1, 1, 1, 0, 1, 0, 0, 0, 0] (bodyOf Try.f126)), .code (sub_ [1, 1, 1, 0, 1, 0, 0, 0, 1] (bodyOf Try.f126)), .code (sub_ [1, 1, 1, 0, 1, 0, 0, 1] (bodyOf Try.f126)), .lp (sub_ [1, 1, 1, 0, 1, 0, 0] (bodyOf Try.f126)), .blk 0, .code (sub_ [1, 1, 1, 1] (bodyOf Try.f126))] (mkSt [(0, .c (.sl 0)), (3, .c (.sl 1)), (4, .c (.v (.int .i64 x4)))] [.row .ro 82 (.st .s82) x0, .row .own 85 (.st .s85) x3])
theorem impl_SegmentsOf.e5 (k : Nat) (x4 : Int) (x0 : List S82) (x3 : List S85) : impl_SegmentsOf.p5 (k + 1) x4 x0 x3 = if x4 < (x0.length : Int) then (if 0 ≤ (wrap64 (x4 - 1)) then (if (wrap64 (x4 - 1)) < (x0.length : Int) then (if 0 ≤ x4 then (if x4 < (x0.length : Int) then (if (x3.length + 1) * 32 ≤ 140737488355328 then (impl_SegmentsOf.p5 k (wrap64 (x4 + 1)) x0 (x3 ++ [(⟨(⟨(rd_T82 x0 (wrap64 (x4 - 1))).f0, (rd_T82 x0 (wrap64 (x4 - 1))).f1⟩ : S82), (⟨(rd_T82 x0 x4).f0, (rd_T82 x0 x4).f1⟩ : S82)⟩ : S85)])) else none) else none) else none) else none) else none) else (impl_SegmentsOf.ret x3) := by kernel_rfl
def impl_SegmentsOf.run (k : Nat) (h : HL eΓ [.l 82 (.st .s82)]) : Option (HL eΓ [.l 85 (.st .s85)]) := evF env impl_SegmentsOf.Fs Try.f126 impl_SegmentsOf.cut [.l 82 (.st .s82)] [.l 85 (.st .s85)] k h
theorem impl_SegmentsOf.ef (k : Nat) (h0 : List S82) : impl_SegmentsOf.run k (h0, ()) = impl_IsLine.ap k h0 fun r1 => if (!r1) = true then (impl_SegmentsOf.ret ([] : List S85)) else (impl_SegmentsOf.p5 k 1 h0 ([] : List S85)) := by kernel_rfl
def impl_SegmentsOf.toH (t : (List (S85))) : HL eΓ [.l 85 (.st .s85)] := (t, ())
def impl_SegmentsOf.spec : Spc env := ⟨126, [.l 82 (.st .s82)], [.l 85 (.st .s85)], impl_SegmentsOf.run⟩
def impl_SegmentsOf.ap {R : Type} (k : Nat) (h0 : List S82) (K : (List S85) → Option R) : Option R := (impl_SegmentsOf.run k (h0, ())).bind fun r => K (r.1 : List S85)
theorem impl_SegmentsOf.ap_of {R : Type} {k : Nat} {h0 : List S82} {r0 : List S85} {K : (List S85) → Option R} (h : impl_SegmentsOf.run k (h0, ()) = some (r0, ())) : impl_SegmentsOf.ap k h0 K = K r0 := by unfold impl_SegmentsOf.ap; rw [h]; rfl
theorem impl_SegmentsOf.snd : Snd env impl_SegmentsOf.spec := evF_snd env_ok (sndC impl_IsLine.snd (sndN)) (by kernel_rfl) (by kernel_rfl) (by kernel_rfl)
attribute [local irreducible] impl_SegmentsOf.run
theorem impl_SegmentsOf.rt (a0 : List S85) : impl_SegmentsOf.ret a0 = some (impl_SegmentsOf.toH (a0)) := rfl
theorem impl_SegmentsOf.br (n : Nat) : (∀ K, n ≤ K → ∀ (x4 : Int) (x0 : List S82) (x3 : List S85) t, impl_SegmentsOf.l0 n x0 x3 x4 = some t → impl_SegmentsOf.p5 K x4 x0 x3 = some (impl_SegmentsOf.toH t)) := by
  induction n using Nat.strongRecOn with
  | _ n ih =>
  intro K hK x4 x0 x3 t h
  all_goals (rcases n with _ | k)
  all_goals (try (exact nos h))
  all_goals (obtain ⟨K, rfl⟩ : ∃ q, K = q + 1 := ⟨K - 1, by omega⟩)
  all_goals (first | rw [impl_SegmentsOf.e5])
  all_goals (try simp only [tq_nat])
  all_goals (try simp only [tq_eq])
  all_goals (simp only [impl_SegmentsOf.l0] at h)
  repeat' (with_reducible first
   | exact nos h
   | (cases some_inj h; exact impl_SegmentsOf.rt _)
   | exact (ih _ (by omega)) _ (by omega) _ _ _ _ h
   | (simp only [Option.bind_some] at h)
   | (refine ite_by h (fun hc h => ?_) (fun hc h => ?_) <;> (try simp only [nrm] at hc))
   | refine itT ?_ (by first | assumption | omega | (simp only [nrm]; first | done | assumption | omega) | (simp only [nln] at hc ⊢; omega))
   | refine itF ?_ (by first | assumption | omega | (simp only [nrm]; first | done | assumption | omega) | (simp only [nln] at hc ⊢; omega))
   | (refine bind_by h (fun t ht h => ?_); refine (impl_IsLine.ap_of (impl_IsLine.go ht _ (by omega))).trans ?_; (try dsimp only at h ⊢))
   | (simp only [decide_not, Bool.decide_and, decide_true, Bool.and_true, Bool.not_and, beqI, Int.toNat_natCast, List.take_length] at h ⊢)
   | (exfalso; omega))
theorem impl_SegmentsOf.go {k : Nat} {l0 : List S82} {t} (h : impl_SegmentsOf.f k l0 = some t) (K : Nat) (hK : k ≤ K) : impl_SegmentsOf.run K (l0, ()) = some (impl_SegmentsOf.toH t) := by
  rw [impl_SegmentsOf.ef]
  (try dsimp only)
  (try simp only [tq_nat])
  (try simp only [tq_eq])
  unfold impl_SegmentsOf.f at h
  repeat' (with_reducible first
   | exact nos h
   | (cases some_inj h; exact impl_SegmentsOf.rt _)
   | exact (impl_SegmentsOf.br _) _ (by omega) _ _ _ _ h
   | (simp only [Option.bind_some] at h)
   | (refine ite_by h (fun hc h => ?_) (fun hc h => ?_) <;> (try simp only [nrm] at hc))
   | refine itT ?_ (by first | assumption | omega | (simp only [nrm]; first | done | assumption | omega) | (simp only [nln] at hc ⊢; omega))
   | refine itF ?_ (by first | assumption | omega | (simp only [nrm]; first | done | assumption | omega) | (simp only [nln] at hc ⊢; omega))
   | (refine bind_by h (fun t ht h => ?_); refine (impl_IsLine.ap_of (impl_IsLine.go ht _ (by omega))).trans ?_; (try dsimp only at h ⊢))
   | (simp only [decide_not, Bool.decide_and, decide_true, Bool.and_true, Bool.not_and, beqI, Int.toNat_natCast, List.take_length] at h ⊢)
   | (exfalso; omega))
def impl_IsSimple.Fs : List (Spc env) := [impl_IsLine.spec, impl_SegmentsOf.spec, impl_HowMeet.spec]
def impl_IsSimple.fin : St eΓ → Option (HL eΓ [.b]) := finR env Try.f124.results.toList [.b]
def impl_IsSimple.cut : Nat → Option (List (Lv SC)) := lk [(5, [⟨3, none, false⟩, ⟨13, none, false⟩, ⟨14, none, false⟩]), (8, [⟨3, none, false⟩, ⟨4, none, false⟩, ⟨13, none, false⟩, ⟨14, none, false⟩, ⟨17, none, false⟩, ⟨18, none, false⟩])]
def impl_IsSimple.ret (r0 : Bool) : Option (HL eΓ [.b]) := some (r0, ())
def impl_IsSimple.p5 (k : Nat) (x13 : Int) (x14 : Int) (x3 : List S85) : Option (HL eΓ [.b]) := evM env impl_IsSimple.Fs Try.f124.ntmps impl_IsSimple.fin impl_IsSimple.cut k [.code (sub_ [1, 1, 1, 0, 1, 0, 0, 0] (bodyOf Try.f124)), .code (sub_ [1, 1, 1, 0, 1, 0, 0, 1] (bodyOf Try.f124)), .lp (sub_ [1, 1, 1, 0, 1, 0, 0] (bodyOf Try.f124)), .blk 0, .code (sub_ [1, 1, 1, 1] (bodyOf Try.f124))] (mkSt [(3, .c (.sl 0)), (13, .c (.v (.int .i64 x13))), (14, .c (.v (.int .i64 x14)))] [.row .own 85 (.st .s85) x3])
def impl_IsSimple.p8 (k : Nat) (x4 : Int) (x13 : Int) (x14 : Int) (x17 : Int) (x18 : Int) (x3 : List S85) : Option (HL eΓ [.b]) := evM env impl_IsSimple.Fs Try.f124.ntmps impl_IsSimple.fin impl_IsSimple.cut k [.code (sub_ [1, 1, 1, 0, 1, 0, 0, 1, 1, 0, 0, 1, 1, 0, 0, 0] (bodyOf Try.f124)), .code (sub_ [1, 1, 1, 0, 1, 0, 0, 1, 1, 0, 0, 1, 1, 0, 0, 1] (bodyOf Try.f124)), .lp (sub_ [1, 1, 1, 0, 1, 0, 0, 1, 1, 0, 0, 1, 1, 0, 0] (bodyOf Try.f124)), .blk 2, .blk 1, .code (sub_ [1, 1, 1, 0, 1, 0, 0, 1, 1, 1] (bodyOf Try.f124)), .lp (sub_ [1, 1, 1, 0, 1, 0, 0] (bodyOf Try.f124)), .blk 0, .code (sub_ [1, 1, 1, 1] (bodyOf Try.f124))] (mkSt [(3, .c (.sl 0)), (4, .c (.v (.int .i64 x4))), (13, .c (.v (.int .i64 x13))), (14, .c (.v (.int .i64 x14))), (17, .c (.v (.int .i64 x17))), (18, .c (.v (.int .i64 x18)))] [.row .own 85 (.st .s85) x3])
theorem impl_IsSimple.e5 (k : Nat) (x13 : Int) (x14 : Int) (x3 : List S85) : impl_IsSimple.p5 (k + 1) x13 x14 x3 = if x14 < x13 then (impl_IsSimple.p8 k x14 x13 x14 x14 0 x3) else (impl_IsSimple.ret true) := by kernel_rfl
theorem impl_IsSimple.e8 (k : Nat) (x4 : Int) (x13 : Int) (x14 : Int) (x17 : Int) (x18 : Int) (x3 : List S85) : impl_IsSimple.p8 (k + 1) x4 x13 x14 x17 x18 x3 = if x18 < x17 then (if x18 = (wrap64 (x4 - 1)) then (if 0 ≤ x4 then (if x4 < (x3.length : Int) then (if 0 ≤ x18 then (if x18 < (x3.length : Int) then (impl_HowMeet.ap k (⟨(⟨(rd_T85 x3 x4).f0.f0, (rd_T85 x3 x4).f0.f1⟩ : S82), (⟨(rd_T85 x3 x4).f1.f0, (rd_T85 x3 x4).f1.f1⟩ : S82)⟩ : S85) (⟨(⟨(rd_T85 x3 x18).f0.f0, (rd_T85 x3 x18).f0.f1⟩ : S82), (⟨(rd_T85 x3 x18).f1.f0, (rd_T85 x3 x18).f1.f1⟩ : S82)⟩ : S85) fun r1 => if ¬ r1 = 1 then (impl_IsSimple.ret false) else (impl_IsSimple.p8 k x4 x13 x14 x17 (wrap64 (x18 + 1)) x3)) else none) else none) else none) else none) else (if 0 ≤ x4 then (if x4 < (x3.length : Int) then (if 0 ≤ x18 then (if x18 < (x3.length : Int) then (impl_HowMeet.ap k (⟨(⟨(rd_T85 x3 x4).f0.f0, (rd_T85 x3 x4).f0.f1⟩ : S82), (⟨(rd_T85 x3 x4).f1.f0, (rd_T85 x3 x4).f1.f1⟩ : S82)⟩ : S85) (⟨(⟨(rd_T85 x3 x18).f0.f0, (rd_T85 x3 x18).f0.f1⟩ : S82), (⟨(rd_T85 x3 x18).f1.f0, (rd_T85 x3 x18).f1.f1⟩ : S82)⟩ : S85) fun r2 => if ¬ r2 = 0 then (impl_IsSimple.ret false) else (impl_IsSimple.p8 k x4 x13 x14 x17 (wrap64 (x18 + 1)) x3)) else none) else none) else none) else none)) else (impl_IsSimple.p5 k x13 (wrap64 (x14 + 1)) x3) := by kernel_rfl
def impl_IsSimple.run (k : Nat) (h : HL eΓ [.l 82 (.st .s82)]) : Option (HL eΓ [.b]) := evF env impl_IsSimple.Fs Try.f124 impl_IsSimple.cut [.l 82 (.st .s82)] [.b] k h
theorem impl_IsSimple.ef (k : Nat) (h0 : List S82) : impl_IsSimple.run k (h0, ()) = impl_IsLine.ap k h0 fun r1 => if (!r1) = true then (impl_IsSimple.ret false) else (impl_SegmentsOf.ap k h0 fun r2 => impl_IsSimple.p5 k (r2.length : Int) 0 r2) := by kernel_rfl
def impl_IsSimple.toH (t : Bool) : HL eΓ [.b] := (t, ())
def impl_IsSimple.spec : Spc env := ⟨124, [.l 82 (.st .s82)], [.b], impl_IsSimple.run⟩
def impl_IsSimple.ap {R : Type} (k : Nat) (h0 : List S82) (K : Bool → Option R) : Option R := (impl_IsSimple.run k (h0, ())).bind fun r => K (r.1 : Bool)
theorem impl_IsSimple.ap_of {R : Type} {k : Nat} {h0 : List S82} {r0 : Bool} {K : Bool → Option R} (h : impl_IsSimple.run k (h0, ()) = some (r0, ())) : impl_IsSimple.ap k h0 K = K r0 := by unfold impl_IsSimple.ap; rw [h]; rfl
theorem impl_IsSimple.snd : Snd env impl_IsSimple.spec := evF_snd env_ok (sndC impl_IsLine.snd (sndC impl_SegmentsOf.snd (sndC impl_HowMeet.snd (sndN)))) (by kernel_rfl) (by kernel_rfl) (by kernel_rfl)
attribute [local irreducible] impl_IsSimple.run
theorem impl_IsSimple.rt (a0 : Bool) : impl_IsSimple.ret a0 = some (impl_IsSimple.toH (a0)) := rfl
theorem impl_IsSimple.br (n : Nat) : (∀ K, n ≤ K → ∀ (x13 : Int) (x14 : Int) (x3 : List S85) t, impl_IsSimple.l0 n x3 x13 x14 = some t → impl_IsSimple.p5 K x13 x14 x3 = some (impl_IsSimple.toH t)) ∧ (∀ K, n ≤ K → ∀ (x4 : Int) (x13 : Int) (x14 : Int) (x17 : Int) (x18 : Int) (x3 : List S85) t, impl_IsSimple.l1 n x3 x4 x13 x14 x17 x18 = some t → impl_IsSimple.p8 K x4 x13 x14 x17 x18 x3 = some (impl_IsSimple.toH t)) := by
  induction n using Nat.strongRecOn with
  | _ n ih =>
  refine ⟨fun K hK x13 x14 x3 t h => ?_, fun K hK x4 x13 x14 x17 x18 x3 t h => ?_⟩
  all_goals (rcases n with _ | k)
  all_goals (try (exact nos h))
  all_goals (obtain ⟨K, rfl⟩ : ∃ q, K = q + 1 := ⟨K - 1, by omega⟩)
  all_goals (first | rw [impl_IsSimple.e5] | rw [impl_IsSimple.e8])
  all_goals (try simp only [tq_nat])
  all_goals (try simp only [tq_eq])
  all_goals (simp only [impl_IsSimple.l0, impl_IsSimple.l1] at h)
  repeat' (with_reducible first
   | exact nos h
   | (cases some_inj h; exact impl_IsSimple.rt _)
   | exact (ih _ (by omega)).1 _ (by omega) _ _ _ _ h
   | exact (ih _ (by omega)).2 _ (by omega) _ _ _ _ _ _ _ h
   | (simp only [Option.bind_some] at h)
   | (refine ite_by h (fun hc h => ?_) (fun hc h => ?_) <;> (try simp only [nrm] at hc))
   | refine itT ?_ (by first | assumption | omega | (simp only [nrm]; first | done | assumption | omega) | (simp only [nln] at hc ⊢; omega))
   | refine itF ?_ (by first | assumption | omega | (simp only [nrm]; first | done | assumption | omega) | (simp only [nln] at hc ⊢; omega))
   | (refine bind_by h (fun t ht h => ?_); (first | refine (impl_IsLine.ap_of (impl_IsLine.go ht _ (by omega))).trans ?_ | refine (impl_SegmentsOf.ap_of (impl_SegmentsOf.go ht _ (by omega))).trans ?_ | refine (impl_HowMeet.ap_of (impl_HowMeet.go ht _ (by omega))).trans ?_); (try dsimp only at h ⊢))
   | (simp only [decide_not, Bool.decide_and, decide_true, Bool.and_true, Bool.not_and, beqI, Int.toNat_natCast, List.take_length] at h ⊢)
   | (exfalso; omega))
theorem impl_IsSimple.go {k : Nat} {l0 : List S82} {t} (h : impl_IsSimple.f k l0 = some t) (K : Nat) (hK : k ≤ K) : impl_IsSimple.run K (l0, ()) = some (impl_IsSimple.toH t) := by
  rw [impl_IsSimple.ef]
  (try dsimp only)
  (try simp only [tq_nat])
  (try simp only [tq_eq])
  unfold impl_IsSimple.f at h
  repeat' (with_reducible first
   | exact nos h
   | (cases some_inj h; exact impl_IsSimple.rt _)
   | exact (impl_IsSimple.br _).1 _ (by omega) _ _ _ _ h
   | exact (impl_IsSimple.br _).2 _ (by omega) _ _ _ _ _ _ _ h
   | (simp only [Option.bind_some] at h)
   | (refine ite_by h (fun hc h => ?_) (fun hc h => ?_) <;> (try simp only [nrm] at hc))
   | refine itT ?_ (by first | assumption | omega | (simp only [nrm]; first | done | assumption | omega) | (simp only [nln] at hc ⊢; omega))
   | refine itF ?_ (by first | assumption | omega | (simp only [nrm]; first | done | assumption | omega) | (simp only [nln] at hc ⊢; omega))
   | (refine bind_by h (fun t ht h => ?_); (first | refine (impl_IsLine.ap_of (impl_IsLine.go ht _ (by omega))).trans ?_ | refine (impl_SegmentsOf.ap_of (impl_SegmentsOf.go ht _ (by omega))).trans ?_ | refine (impl_HowMeet.ap_of (impl_HowMeet.go ht _ (by omega))).trans ?_); (try dsimp only at h ⊢))
   | (simp only [decide_not, Bool.decide_and, decide_true, Bool.and_true, Bool.not_and, beqI, Int.toNat_natCast, List.take_length] at h ⊢)
   | (exfalso; omega))
def impl_IsFeature.Fs : List (Spc env) := [impl_InRange.spec, impl_IsName.spec, impl_IsPoint.spec, impl_IsSimple.spec, impl_IsRing.spec]
def impl_IsFeature.cut : Nat → Option (List (Lv SC)) := lk []
def impl_IsFeature.ret (r0 : Bool) : Option (HL eΓ [.b]) := some (r0, ())
def impl_IsFeature.run (k : Nat) (h : HL eΓ [.st .s29]) : Option (HL eΓ [.b]) := evF env impl_IsFeature.Fs Try.f72 impl_IsFeature.cut [.st .s29] [.b] k h
theorem impl_IsFeature.ef (k : Nat) (h0 : S29) : impl_IsFeature.run k (h0, ()) = impl_InRange.ap k h0.f0 1 99 fun r1 => if (!r1) = true then (impl_IsFeature.ret false) else (impl_InRange.ap k h0.f2 0 9 fun r2 => if (!r2) = true then (impl_IsFeature.ret false) else (if ¬ h0.f3.toList = [] then (impl_IsName.ap k h0.f3 fun r3 => if (!r3) = true then (impl_IsFeature.ret false) else (if h0.f1 = 1 then (if (h0.f4.length : Int) = 1 then (if 0 < (h0.f4.length : Int) then (impl_IsPoint.ap k (⟨(rd_T82 h0.f4 0).f0, (rd_T82 h0.f4 0).f1⟩ : S82) fun r4 => impl_IsFeature.ret r4) else none) else (impl_IsFeature.ret false)) else (if h0.f1 = 2 then (impl_IsSimple.ap k h0.f4 fun r5 => impl_IsFeature.ret r5) else (if h0.f1 = 3 then (impl_IsRing.ap k h0.f4 fun r6 => impl_IsFeature.ret r6) else (impl_IsFeature.ret false))))) else (if h0.f1 = 1 then (if (h0.f4.length : Int) = 1 then (if 0 < (h0.f4.length : Int) then (impl_IsPoint.ap k (⟨(rd_T82 h0.f4 0).f0, (rd_T82 h0.f4 0).f1⟩ : S82) fun r7 => impl_IsFeature.ret r7) else none) else (impl_IsFeature.ret false)) else (if h0.f1 = 2 then (impl_IsSimple.ap k h0.f4 fun r8 => impl_IsFeature.ret r8) else (if h0.f1 = 3 then (impl_IsRing.ap k h0.f4 fun r9 => impl_IsFeature.ret r9) else (impl_IsFeature.ret false)))))) := by kernel_rfl
def impl_IsFeature.toH (t : Bool) : HL eΓ [.b] := (t, ())
def impl_IsFeature.spec : Spc env := ⟨72, [.st .s29], [.b], impl_IsFeature.run⟩
def impl_IsFeature.ap {R : Type} (k : Nat) (h0 : S29) (K : Bool → Option R) : Option R := (impl_IsFeature.run k (h0, ())).bind fun r => K (r.1 : Bool)
theorem impl_IsFeature.ap_of {R : Type} {k : Nat} {h0 : S29} {r0 : Bool} {K : Bool → Option R} (h : impl_IsFeature.run k (h0, ()) = some (r0, ())) : impl_IsFeature.ap k h0 K = K r0 := by unfold impl_IsFeature.ap; rw [h]; rfl
theorem impl_IsFeature.snd : Snd env impl_IsFeature.spec := evF_snd env_ok (sndC impl_InRange.snd (sndC impl_IsName.snd (sndC impl_IsPoint.snd (sndC impl_IsSimple.snd (sndC impl_IsRing.snd (sndN)))))) (by kernel_rfl) (by kernel_rfl) (by kernel_rfl)
attribute [local irreducible] impl_IsFeature.run
theorem impl_IsFeature.rt (a0 : Bool) : impl_IsFeature.ret a0 = some (impl_IsFeature.toH (a0)) := rfl
theorem impl_IsFeature.go {k : Nat} {a0_0 : Int} {a0_1 : Int} {a0_2 : Int} {a0_3 : ByteArray} {l0_4 : List S82} {t} (h : impl_IsFeature.f k a0_0 a0_1 a0_2 a0_3 l0_4 = some t) (K : Nat) (hK : k ≤ K) : impl_IsFeature.run K ((⟨a0_0, a0_1, a0_2, a0_3, l0_4⟩ : S29), ()) = some (impl_IsFeature.toH t) := by
  rw [impl_IsFeature.ef]
  (try dsimp only)
  (try simp only [tq_nat])
  (try simp only [tq_eq])
  unfold impl_IsFeature.f at h
  repeat' (with_reducible first
   | exact nos h
   | (cases some_inj h; exact impl_IsFeature.rt _)
   | ((have q : impl_IsFeature.j0 k _ _ _ _ _ _ = some _ := h; clear q); rcases k with _ | k <;> simp only [impl_IsFeature.j0, reduceCtorEq] at h)
   | (simp only [Option.bind_some] at h)
   | (refine ite_by h (fun hc h => ?_) (fun hc h => ?_) <;> (try simp only [nrm] at hc))
   | refine itT ?_ (by first | assumption | omega | (simp only [nrm]; first | done | assumption | omega) | (simp only [nln] at hc ⊢; omega))
   | refine itF ?_ (by first | assumption | omega | (simp only [nrm]; first | done | assumption | omega) | (simp only [nln] at hc ⊢; omega))
   | (refine bind_by h (fun t ht h => ?_); (first | refine (impl_InRange.ap_of (impl_InRange.go ht _)).trans ?_ | refine (impl_IsName.ap_of (impl_IsName.go ht _ (by omega))).trans ?_ | refine (impl_IsPoint.ap_of (impl_IsPoint.go ht _)).trans ?_ | refine (impl_IsSimple.ap_of (impl_IsSimple.go ht _ (by omega))).trans ?_ | refine (impl_IsRing.ap_of (impl_IsRing.go ht _ (by omega))).trans ?_); (try dsimp only at h ⊢))
   | (simp only [decide_not, Bool.decide_and, decide_true, Bool.and_true, Bool.not_and, beqI, Int.toNat_natCast, List.take_length] at h ⊢)
   | (exfalso; omega))
def impl_IsSource.Fs : List (Spc env) := [impl_IsFeature.spec]
def impl_IsSource.fin : St eΓ → Option (HL eΓ [.b]) := finR env Try.f85.results.toList [.b]
def impl_IsSource.cut : Nat → Option (List (Lv SC)) := lk [(4, [⟨0, none, false⟩, ⟨8, none, false⟩, ⟨9, none, false⟩, ⟨10, none, false⟩])]
def impl_IsSource.ret (r0 : Bool) : Option (HL eΓ [.b]) := some (r0, ())
def impl_IsSource.p4 (k : Nat) (x9 : Int) (x10 : Int) (x0 : List S29) : Option (HL eΓ [.b]) := evM env impl_IsSource.Fs Try.f85.ntmps impl_IsSource.fin impl_IsSource.cut k [.code (sub_ [1, 1, 0, 1, 0, 0, 0] (bodyOf Try.f85)), .code (sub_ [1, 1, 0, 1, 0, 0, 1] (bodyOf Try.f85)), .lp (sub_ [1, 1, 0, 1, 0, 0] (bodyOf Try.f85)), .blk 0, .code (sub_ [1, 1, 1] (bodyOf Try.f85))] (mkSt [(0, .c (.sl 0)), (8, .c (.sl 0)), (9, .c (.v (.int .i64 x9))), (10, .c (.v (.int .i64 x10)))] [.row .ro 29 (.st .s29) x0])
theorem impl_IsSource.e4 (k : Nat) (x9 : Int) (x10 : Int) (x0 : List S29) : impl_IsSource.p4 (k + 1) x9 x10 x0 = if x10 < x9 then (if 0 ≤ x10 then (if x10 < (x0.length : Int) then (impl_IsFeature.ap k (⟨(rd_T29 x0 x10).f0, (rd_T29 x0 x10).f1, (rd_T29 x0 x10).f2, (rd_T29 x0 x10).f3, (rd_T29 x0 x10).f4⟩ : S29) fun r1 => if (!r1) = true then (impl_IsSource.ret false) else (if x10 > 0 then (if 0 ≤ (wrap64 (x10 - 1)) then (if (wrap64 (x10 - 1)) < (x0.length : Int) then (if ((rd_T29 x0 x10).f0) ≤ ((rd_T29 x0 (wrap64 (x10 - 1))).f0) then (impl_IsSource.ret false) else (impl_IsSource.p4 k x9 (wrap64 (x10 + 1)) x0)) else none) else none) else (impl_IsSource.p4 k x9 (wrap64 (x10 + 1)) x0))) else none) else none) else (impl_IsSource.ret true) := by kernel_rfl
def impl_IsSource.run (k : Nat) (h : HL eΓ [.l 29 (.st .s29)]) : Option (HL eΓ [.b]) := evF env impl_IsSource.Fs Try.f85 impl_IsSource.cut [.l 29 (.st .s29)] [.b] k h
theorem impl_IsSource.ef (k : Nat) (h0 : List S29) : impl_IsSource.run k (h0, ()) = if (h0.length : Int) > 16 then (impl_IsSource.ret false) else (impl_IsSource.p4 k (h0.length : Int) 0 h0) := by kernel_rfl
def impl_IsSource.toH (t : Bool) : HL eΓ [.b] := (t, ())
def impl_IsSource.spec : Spc env := ⟨85, [.l 29 (.st .s29)], [.b], impl_IsSource.run⟩
def impl_IsSource.ap {R : Type} (k : Nat) (h0 : List S29) (K : Bool → Option R) : Option R := (impl_IsSource.run k (h0, ())).bind fun r => K (r.1 : Bool)
theorem impl_IsSource.ap_of {R : Type} {k : Nat} {h0 : List S29} {r0 : Bool} {K : Bool → Option R} (h : impl_IsSource.run k (h0, ()) = some (r0, ())) : impl_IsSource.ap k h0 K = K r0 := by unfold impl_IsSource.ap; rw [h]; rfl
theorem impl_IsSource.snd : Snd env impl_IsSource.spec := evF_snd env_ok (sndC impl_IsFeature.snd (sndN)) (by kernel_rfl) (by kernel_rfl) (by kernel_rfl)
attribute [local irreducible] impl_IsSource.run
theorem impl_IsSource.rt (a0 : Bool) : impl_IsSource.ret a0 = some (impl_IsSource.toH (a0)) := rfl
theorem impl_IsSource.br (n : Nat) : (∀ K, n ≤ K → ∀ (x9 : Int) (x10 : Int) (x0 : List S29) t, impl_IsSource.l0 n x0 x0 x9 x10 = some t → impl_IsSource.p4 K x9 x10 x0 = some (impl_IsSource.toH t)) := by
  induction n using Nat.strongRecOn with
  | _ n ih =>
  intro K hK x9 x10 x0 t h
  all_goals (rcases n with _ | k)
  all_goals (try (exact nos h))
  all_goals (obtain ⟨K, rfl⟩ : ∃ q, K = q + 1 := ⟨K - 1, by omega⟩)
  all_goals (first | rw [impl_IsSource.e4])
  all_goals (try simp only [tq_nat])
  all_goals (try simp only [tq_eq])
  all_goals (simp only [impl_IsSource.l0] at h)
  repeat' (with_reducible first
   | exact nos h
   | (cases some_inj h; exact impl_IsSource.rt _)
   | exact (ih _ (by omega)) _ (by omega) _ _ _ _ h
   | (simp only [Option.bind_some] at h)
   | (refine ite_by h (fun hc h => ?_) (fun hc h => ?_) <;> (try simp only [nrm] at hc))
   | refine itT ?_ (by first | assumption | omega | (simp only [nrm]; first | done | assumption | omega) | (simp only [nln] at hc ⊢; omega))
   | refine itF ?_ (by first | assumption | omega | (simp only [nrm]; first | done | assumption | omega) | (simp only [nln] at hc ⊢; omega))
   | (refine bind_by h (fun t ht h => ?_); refine (impl_IsFeature.ap_of (impl_IsFeature.go ht _ (by omega))).trans ?_; (try dsimp only at h ⊢))
   | (simp only [decide_not, Bool.decide_and, decide_true, Bool.and_true, Bool.not_and, beqI, Int.toNat_natCast, List.take_length] at h ⊢)
   | (exfalso; omega))
theorem impl_IsSource.go {k : Nat} {l0 : List S29} {t} (h : impl_IsSource.f k l0 = some t) (K : Nat) (hK : k ≤ K) : impl_IsSource.run K (l0, ()) = some (impl_IsSource.toH t) := by
  rw [impl_IsSource.ef]
  (try dsimp only)
  (try simp only [tq_nat])
  (try simp only [tq_eq])
  unfold impl_IsSource.f at h
  repeat' (with_reducible first
   | exact nos h
   | (cases some_inj h; exact impl_IsSource.rt _)
   | exact (impl_IsSource.br _) _ (by omega) _ _ _ _ h
   | (simp only [Option.bind_some] at h)
   | (refine ite_by h (fun hc h => ?_) (fun hc h => ?_) <;> (try simp only [nrm] at hc))
   | refine itT ?_ (by first | assumption | omega | (simp only [nrm]; first | done | assumption | omega) | (simp only [nln] at hc ⊢; omega))
   | refine itF ?_ (by first | assumption | omega | (simp only [nrm]; first | done | assumption | omega) | (simp only [nln] at hc ⊢; omega))
   | (refine bind_by h (fun t ht h => ?_); refine (impl_IsFeature.ap_of (impl_IsFeature.go ht _ (by omega))).trans ?_; (try dsimp only at h ⊢))
   | (simp only [decide_not, Bool.decide_and, decide_true, Bool.and_true, Bool.not_and, beqI, Int.toNat_natCast, List.take_length] at h ⊢)
   | (exfalso; omega))
def impl_RingMiddle.Fs : List (Spc env) := [impl_IsRing.spec]
def impl_RingMiddle.fin : St eΓ → Option (HL eΓ [.st .s82, .b]) := finR env Try.f86.results.toList [.st .s82, .b]
def impl_RingMiddle.cut : Nat → Option (List (Lv SC)) := lk [(5, [⟨0, none, false⟩, ⟨2, none, false⟩, ⟨4, none, false⟩, ⟨12, none, false⟩, ⟨13, none, false⟩, ⟨14, none, false⟩])]
def impl_RingMiddle.ret (r0 : S82) (r1 : Bool) : Option (HL eΓ [.st .s82, .b]) := some (r0, r1, ())
def impl_RingMiddle.p5 (k : Nat) (x13 : Int) (x14 : Int) (x0 : List S82) (b1_0 : Int) (b1_1 : Int) (b2_0 : Int) (b2_1 : Int) : Option (HL eΓ [.st .s82, .b]) := evM env impl_RingMiddle.Fs Try.f86.ntmps impl_RingMiddle.fin impl_RingMiddle.cut k [.code (sub_ [1, 1, 1, 0, 1, 0, 0, 0] (bodyOf Try.f86)), .code (sub_ [1, 1, 1, 0, 1, 0, 0, 1] (bodyOf Try.f86)), .lp (sub_ [1, 1, 1, 0, 1, 0, 0] (bodyOf Try.f86)), .blk 0, .code (sub_ [1, 1, 1, 1] (bodyOf Try.f86))] (mkSt [(0, .c (.sl 0)), (2, .c (.ptr 1 0)), (4, .c (.ptr 2 0)), (12, .c (.sl 0)), (13, .c (.v (.int .i64 x13))), (14, .c (.v (.int .i64 x14)))] [.row .ro 82 (.st .s82) x0, .box 82 [.v (.int .i64 b1_0), .v (.int .i64 b1_1)], .box 82 [.v (.int .i64 b2_0), .v (.int .i64 b2_1)]])
theorem impl_RingMiddle.e5 (k : Nat) (x13 : Int) (x14 : Int) (x0 : List S82) (b1_0 : Int) (b1_1 : Int) (b2_0 : Int) (b2_1 : Int) : impl_RingMiddle.p5 (k + 1) x13 x14 x0 b1_0 b1_1 b2_0 b2_1 = if x14 < x13 then (if 0 ≤ x14 then (if x14 < (x0.length : Int) then (impl_RingMiddle.p5 k x13 (wrap64 (x14 + 1)) x0 b1_0 b1_1 (wrap64 (b2_0 + ((rd_T82 x0 x14).f0))) (wrap64 (b2_1 + ((rd_T82 x0 x14).f1)))) else none) else none) else (if (x0.length : Int) = 0 then none else (if (x0.length : Int) = 0 then none else (impl_RingMiddle.ret (⟨wrap64 (tq b2_0 (x0.length : Int)), wrap64 (tq b2_1 (x0.length : Int))⟩ : S82) true))) := by kernel_rfl
def impl_RingMiddle.run (k : Nat) (h : HL eΓ [.l 82 (.st .s82)]) : Option (HL eΓ [.st .s82, .b]) := evF env impl_RingMiddle.Fs Try.f86 impl_RingMiddle.cut [.l 82 (.st .s82)] [.st .s82, .b] k h
theorem impl_RingMiddle.ef (k : Nat) (h0 : List S82) : impl_RingMiddle.run k (h0, ()) = impl_IsRing.ap k h0 fun r1 => if (!r1) = true then (impl_RingMiddle.ret (⟨0, 0⟩ : S82) false) else (impl_RingMiddle.p5 k (h0.length : Int) 0 h0 0 0 0 0) := by kernel_rfl
def impl_RingMiddle.toH (t : Int × Int × Bool) : HL eΓ [.st .s82, .b] := ((⟨t.1, t.2.1⟩ : S82), t.2.2, ())
def impl_RingMiddle.spec : Spc env := ⟨86, [.l 82 (.st .s82)], [.st .s82, .b], impl_RingMiddle.run⟩
def impl_RingMiddle.ap {R : Type} (k : Nat) (h0 : List S82) (K : S82 → Bool → Option R) : Option R := (impl_RingMiddle.run k (h0, ())).bind fun r => K (r.1 : S82) (r.2.1 : Bool)
theorem impl_RingMiddle.ap_of {R : Type} {k : Nat} {h0 : List S82} {r0 : S82} {r1 : Bool} {K : S82 → Bool → Option R} (h : impl_RingMiddle.run k (h0, ()) = some (r0, r1, ())) : impl_RingMiddle.ap k h0 K = K r0 r1 := by unfold impl_RingMiddle.ap; rw [h]; rfl
theorem impl_RingMiddle.snd : Snd env impl_RingMiddle.spec := evF_snd env_ok (sndC impl_IsRing.snd (sndN)) (by kernel_rfl) (by kernel_rfl) (by kernel_rfl)
attribute [local irreducible] impl_RingMiddle.run
theorem impl_RingMiddle.rt (a0 : Int) (a1 : Int) (a2 : Bool) : impl_RingMiddle.ret (⟨a0, a1⟩ : S82) a2 = some (impl_RingMiddle.toH (a0, a1, a2)) := rfl
theorem impl_RingMiddle.br (n : Nat) : (∀ K, n ≤ K → ∀ (x13 : Int) (x14 : Int) (x0 : List S82) (b1_0 : Int) (b1_1 : Int) (b2_0 : Int) (b2_1 : Int) t, impl_RingMiddle.l0 n x0 x0 x13 x14 b2_0 b2_1 = some t → impl_RingMiddle.p5 K x13 x14 x0 b1_0 b1_1 b2_0 b2_1 = some (impl_RingMiddle.toH t)) := by
  induction n using Nat.strongRecOn with
  | _ n ih =>
  intro K hK x13 x14 x0 b1_0 b1_1 b2_0 b2_1 t h
  all_goals (rcases n with _ | k)
  all_goals (try (exact nos h))
  all_goals (obtain ⟨K, rfl⟩ : ∃ q, K = q + 1 := ⟨K - 1, by omega⟩)
  all_goals (first | rw [impl_RingMiddle.e5])
  all_goals (try simp only [tq_nat])
  all_goals (try simp only [tq_eq])
  all_goals (simp only [impl_RingMiddle.l0] at h)
  repeat' (with_reducible first
   | exact nos h
   | (cases some_inj h; exact impl_RingMiddle.rt _ _ _)
   | exact (ih _ (by omega)) _ (by omega) _ _ _ _ _ _ _ _ h
   | (simp only [Option.bind_some] at h)
   | (refine ite_by h (fun hc h => ?_) (fun hc h => ?_) <;> (try simp only [nrm] at hc))
   | refine itT ?_ (by first | assumption | omega | (simp only [nrm]; first | done | assumption | omega) | (simp only [nln] at hc ⊢; omega))
   | refine itF ?_ (by first | assumption | omega | (simp only [nrm]; first | done | assumption | omega) | (simp only [nln] at hc ⊢; omega))
   | (refine bind_by h (fun t ht h => ?_); refine (impl_IsRing.ap_of (impl_IsRing.go ht _ (by omega))).trans ?_; (try dsimp only at h ⊢))
   | (simp only [decide_not, Bool.decide_and, decide_true, Bool.and_true, Bool.not_and, beqI, Int.toNat_natCast, List.take_length] at h ⊢)
   | (exfalso; omega))
theorem impl_RingMiddle.go {k : Nat} {l0 : List S82} {t} (h : impl_RingMiddle.f k l0 = some t) (K : Nat) (hK : k ≤ K) : impl_RingMiddle.run K (l0, ()) = some (impl_RingMiddle.toH t) := by
  rw [impl_RingMiddle.ef]
  (try dsimp only)
  (try simp only [tq_nat])
  (try simp only [tq_eq])
  unfold impl_RingMiddle.f at h
  repeat' (with_reducible first
   | exact nos h
   | (cases some_inj h; exact impl_RingMiddle.rt _ _ _)
   | exact (impl_RingMiddle.br _) _ (by omega) _ _ _ _ _ _ _ _ h
   | (simp only [Option.bind_some] at h)
   | (refine ite_by h (fun hc h => ?_) (fun hc h => ?_) <;> (try simp only [nrm] at hc))
   | refine itT ?_ (by first | assumption | omega | (simp only [nrm]; first | done | assumption | omega) | (simp only [nln] at hc ⊢; omega))
   | refine itF ?_ (by first | assumption | omega | (simp only [nrm]; first | done | assumption | omega) | (simp only [nln] at hc ⊢; omega))
   | (refine bind_by h (fun t ht h => ?_); refine (impl_IsRing.ap_of (impl_IsRing.go ht _ (by omega))).trans ?_; (try dsimp only at h ⊢))
   | (simp only [decide_not, Bool.decide_and, decide_true, Bool.and_true, Bool.not_and, beqI, Int.toNat_natCast, List.take_length] at h ⊢)
   | (exfalso; omega))
def impl_AnchorsOf.Fs : List (Spc env) := [impl_IsSource.spec, impl_RingMiddle.spec]
def impl_AnchorsOf.fin : St eΓ → Option (HL eΓ [.l 93 (.st .s93)]) := finR env Try.f29.results.toList [.l 93 (.st .s93)]
def impl_AnchorsOf.cut : Nat → Option (List (Lv SC)) := lk [(5, [⟨3, none, false⟩, ⟨12, none, false⟩, ⟨13, none, false⟩, ⟨14, none, false⟩])]
def impl_AnchorsOf.ret (r0 : List S93) : Option (HL eΓ [.l 93 (.st .s93)]) := some (r0, ())
def impl_AnchorsOf.p5 (k : Nat) (x13 : Int) (x14 : Int) (x3 : List S93) (x12 : List S29) : Option (HL eΓ [.l 93 (.st .s93)]) := evM env impl_AnchorsOf.Fs Try.f29.ntmps impl_AnchorsOf.fin impl_AnchorsOf.cut k [.code (sub_ [1, 1, 1, 0, 1, 0, 0, 0] (bodyOf Try.f29)), .code (sub_ [1, 1, 1, 0, 1, 0, 0, 1] (bodyOf Try.f29)), .lp (sub_ [1, 1, 1, 0, 1, 0, 0] (bodyOf Try.f29)), .blk 0, .code (sub_ [1, 1, 1, 1] (bodyOf Try.f29))] (mkSt [(3, .c (.sl 0)), (12, .c (.sl 1)), (13, .c (.v (.int .i64 x13))), (14, .c (.v (.int .i64 x14)))] [.row .own 93 (.st .s93) x3, .row .ro 29 (.st .s29) x12])
theorem impl_AnchorsOf.e5 (k : Nat) (x13 : Int) (x14 : Int) (x3 : List S93) (x12 : List S29) : impl_AnchorsOf.p5 (k + 1) x13 x14 x3 x12 = if x14 < x13 then (if 0 ≤ x14 then (if x14 < (x12.length : Int) then (if ((rd_T29 x12 x14).f3).toList = [] then (impl_AnchorsOf.p5 k x13 (wrap64 (x14 + 1)) x3 x12) else (if ((rd_T29 x12 x14).f1) = 1 then (if 0 < (((rd_T29 x12 x14).f4).length : Int) then (if (x3.length + 1) * 32 ≤ 140737488355328 then (impl_AnchorsOf.p5 k x13 (wrap64 (x14 + 1)) (x3 ++ [(⟨(rd_T29 x12 x14).f0, (⟨(rd_T82 ((rd_T29 x12 x14).f4) 0).f0, (rd_T82 ((rd_T29 x12 x14).f4) 0).f1⟩ : S82), (rd_T29 x12 x14).f2⟩ : S93)]) x12) else none) else none) else (if ((rd_T29 x12 x14).f1) = 2 then (if 0 ≤ (wrap64 (tq (((rd_T29 x12 x14).f4).length : Int) 2)) then (if (wrap64 (tq (((rd_T29 x12 x14).f4).length : Int) 2)) < (((rd_T29 x12 x14).f4).length : Int) then (if (x3.length + 1) * 32 ≤ 140737488355328 then (impl_AnchorsOf.p5 k x13 (wrap64 (x14 + 1)) (x3 ++ [(⟨(rd_T29 x12 x14).f0, (⟨(rd_T82 ((rd_T29 x12 x14).f4) (wrap64 (tq (((rd_T29 x12 x14).f4).length : Int) 2))).f0, (rd_T82 ((rd_T29 x12 x14).f4) (wrap64 (tq (((rd_T29 x12 x14).f4).length : Int) 2))).f1⟩ : S82), (rd_T29 x12 x14).f2⟩ : S93)]) x12) else none) else none) else none) else (if ((rd_T29 x12 x14).f1) = 3 then (impl_RingMiddle.ap k ((rd_T29 x12 x14).f4) fun r1_0 r1_1 => if (x3.length + 1) * 32 ≤ 140737488355328 then (impl_AnchorsOf.p5 k x13 (wrap64 (x14 + 1)) (x3 ++ [(⟨(rd_T29 x12 x14).f0, (⟨r1_0.f0, r1_0.f1⟩ : S82), (rd_T29 x12 x14).f2⟩ : S93)]) x12) else none) else (if (x3.length + 1) * 32 ≤ 140737488355328 then (impl_AnchorsOf.p5 k x13 (wrap64 (x14 + 1)) (x3 ++ [(⟨(rd_T29 x12 x14).f0, (⟨0, 0⟩ : S82), (rd_T29 x12 x14).f2⟩ : S93)]) x12) else none))))) else none) else none) else (impl_AnchorsOf.ret x3) := by kernel_rfl
def impl_AnchorsOf.run (k : Nat) (h : HL eΓ [.l 29 (.st .s29)]) : Option (HL eΓ [.l 93 (.st .s93)]) := evF env impl_AnchorsOf.Fs Try.f29 impl_AnchorsOf.cut [.l 29 (.st .s29)] [.l 93 (.st .s93)] k h
theorem impl_AnchorsOf.ef (k : Nat) (h0 : List S29) : impl_AnchorsOf.run k (h0, ()) = impl_IsSource.ap k h0 fun r1 => if (!r1) = true then (impl_AnchorsOf.ret ([] : List S93)) else (impl_AnchorsOf.p5 k (h0.length : Int) 0 ([] : List S93) h0) := by kernel_rfl
def impl_AnchorsOf.toH (t : (List (S93))) : HL eΓ [.l 93 (.st .s93)] := (t, ())
def impl_AnchorsOf.spec : Spc env := ⟨29, [.l 29 (.st .s29)], [.l 93 (.st .s93)], impl_AnchorsOf.run⟩
theorem impl_AnchorsOf.snd : Snd env impl_AnchorsOf.spec := evF_snd env_ok (sndC impl_IsSource.snd (sndC impl_RingMiddle.snd (sndN))) (by kernel_rfl) (by kernel_rfl) (by kernel_rfl)
attribute [local irreducible] impl_AnchorsOf.run
theorem impl_AnchorsOf.rt (a0 : List S93) : impl_AnchorsOf.ret a0 = some (impl_AnchorsOf.toH (a0)) := rfl
theorem impl_AnchorsOf.br (n : Nat) : (∀ K, n ≤ K → ∀ (x13 : Int) (x14 : Int) (x3 : List S93) (x12 : List S29) t, impl_AnchorsOf.l0 n x3 x12 x13 x14 = some t → impl_AnchorsOf.p5 K x13 x14 x3 x12 = some (impl_AnchorsOf.toH t)) := by
  induction n using Nat.strongRecOn with
  | _ n ih =>
  intro K hK x13 x14 x3 x12 t h
  all_goals (rcases n with _ | k)
  all_goals (try (exact nos h))
  all_goals (obtain ⟨K, rfl⟩ : ∃ q, K = q + 1 := ⟨K - 1, by omega⟩)
  all_goals (first | rw [impl_AnchorsOf.e5])
  all_goals (try simp only [tq_nat])
  all_goals (try simp only [tq_eq])
  all_goals (simp only [impl_AnchorsOf.l0] at h)
  repeat' (with_reducible first
   | exact nos h
   | (cases some_inj h; exact impl_AnchorsOf.rt _)
   | exact (ih _ (by omega)) _ (by omega) _ _ _ _ _ h
   | (simp only [Option.bind_some] at h)
   | (refine ite_by h (fun hc h => ?_) (fun hc h => ?_) <;> (try simp only [nrm] at hc))
   | refine itT ?_ (by first | assumption | omega | (simp only [nrm]; first | done | assumption | omega) | (simp only [nln] at hc ⊢; omega))
   | refine itF ?_ (by first | assumption | omega | (simp only [nrm]; first | done | assumption | omega) | (simp only [nln] at hc ⊢; omega))
   | (refine bind_by h (fun t ht h => ?_); (first | refine (impl_IsSource.ap_of (impl_IsSource.go ht _ (by omega))).trans ?_ | refine (impl_RingMiddle.ap_of (impl_RingMiddle.go ht _ (by omega))).trans ?_); (try dsimp only at h ⊢))
   | (simp only [decide_not, Bool.decide_and, decide_true, Bool.and_true, Bool.not_and, beqI, Int.toNat_natCast, List.take_length] at h ⊢)
   | (exfalso; omega))
theorem impl_AnchorsOf.go {k : Nat} {l0 : List S29} {t} (h : impl_AnchorsOf.f k l0 = some t) (K : Nat) (hK : k ≤ K) : impl_AnchorsOf.run K (l0, ()) = some (impl_AnchorsOf.toH t) := by
  rw [impl_AnchorsOf.ef]
  (try dsimp only)
  (try simp only [tq_nat])
  (try simp only [tq_eq])
  unfold impl_AnchorsOf.f at h
  repeat' (with_reducible first
   | exact nos h
   | (cases some_inj h; exact impl_AnchorsOf.rt _)
   | exact (impl_AnchorsOf.br _) _ (by omega) _ _ _ _ _ h
   | (simp only [Option.bind_some] at h)
   | (refine ite_by h (fun hc h => ?_) (fun hc h => ?_) <;> (try simp only [nrm] at hc))
   | refine itT ?_ (by first | assumption | omega | (simp only [nrm]; first | done | assumption | omega) | (simp only [nln] at hc ⊢; omega))
   | refine itF ?_ (by first | assumption | omega | (simp only [nrm]; first | done | assumption | omega) | (simp only [nln] at hc ⊢; omega))
   | (refine bind_by h (fun t ht h => ?_); (first | refine (impl_IsSource.ap_of (impl_IsSource.go ht _ (by omega))).trans ?_ | refine (impl_RingMiddle.ap_of (impl_RingMiddle.go ht _ (by omega))).trans ?_); (try dsimp only at h ⊢))
   | (simp only [decide_not, Bool.decide_and, decide_true, Bool.and_true, Bool.not_and, beqI, Int.toNat_natCast, List.take_length] at h ⊢)
   | (exfalso; omega))
theorem impl_AnchorsOf.calls (k : Nat) (A0 : Option Addr) (c0 : Nat) (l0 : List (S29)) (r : List (S93)) (w : World) (hr0 : Kd.C k29 w A0 l0.length l0) (hc0 : l0.length ≤ c0) (h : impl_AnchorsOf.f k l0 = some r) :
  Calls Try.prog 29 #[.slice A0 l0.length c0] w fun e w' => ∃ v0_ : Value, e = .returned (v0_) ∧ Kd.R k93 93 w' w.heap.size (fun _ => True) v0_ r ∧ Below w.heap.size w w' := by
  refine (impl_AnchorsOf.snd.calls _ _ _ (impl_AnchorsOf.go h k (Nat.le_refl k)) w [.slice A0 l0.length c0] ⟨⟨_, _, rfl, hc0, hr0⟩, trivial⟩).mono ?_
  rintro e w' ⟨v, rfl, hB, vs, oks, rfl, hR, _⟩
  obtain ⟨x0_, vs, o0_, oks, rfl, rfl, m0_, hR⟩ := rmsC hR
  obtain rfl := rmsN hR
  obtain ⟨x0_v, x0_e, x0_R⟩ := m0_
  obtain rfl := List.singleton_inj.1 x0_e
  exact ⟨_, rfl, Kd.R_mono x0_R (fun _ _ => trivial), hB⟩
def laws_eqPoint.Fs : List (Spc env) := []
def laws_eqPoint.cut : Nat → Option (List (Lv SC)) := lk []
def laws_eqPoint.ret (r0 : Bool) : Option (HL eΓ [.b]) := some (r0, ())
def laws_eqPoint.run (k : Nat) (h : HL eΓ [.st .s82, .st .s82]) : Option (HL eΓ [.b]) := evF env laws_eqPoint.Fs Try.f115 laws_eqPoint.cut [.st .s82, .st .s82] [.b] k h
theorem laws_eqPoint.ef (k : Nat) (h0 : S82) (h1 : S82) : laws_eqPoint.run k (h0, h1, ()) = if ¬ h0.f0 = h1.f0 then (laws_eqPoint.ret false) else (if ¬ h0.f1 = h1.f1 then (laws_eqPoint.ret false) else (laws_eqPoint.ret true)) := by kernel_rfl
def laws_eqPoint.toH (t : Bool) : HL eΓ [.b] := (t, ())
def laws_eqPoint.spec : Spc env := ⟨115, [.st .s82, .st .s82], [.b], laws_eqPoint.run⟩
def laws_eqPoint.ap {R : Type} (k : Nat) (h0 : S82) (h1 : S82) (K : Bool → Option R) : Option R := (laws_eqPoint.run k (h0, h1, ())).bind fun r => K (r.1 : Bool)
theorem laws_eqPoint.ap_of {R : Type} {k : Nat} {h0 : S82} {h1 : S82} {r0 : Bool} {K : Bool → Option R} (h : laws_eqPoint.run k (h0, h1, ()) = some (r0, ())) : laws_eqPoint.ap k h0 h1 K = K r0 := by unfold laws_eqPoint.ap; rw [h]; rfl
theorem laws_eqPoint.snd : Snd env laws_eqPoint.spec := evF_snd env_ok (sndN) (by kernel_rfl) (by kernel_rfl) (by kernel_rfl)
attribute [local irreducible] laws_eqPoint.run
theorem laws_eqPoint.rt (a0 : Bool) : laws_eqPoint.ret a0 = some (laws_eqPoint.toH (a0)) := rfl
theorem laws_eqPoint.go {a0_0 : Int} {a0_1 : Int} {a1_0 : Int} {a1_1 : Int} {t} (h : laws_eqPoint.f a0_0 a0_1 a1_0 a1_1 = some t) (K : Nat) : laws_eqPoint.run K ((⟨a0_0, a0_1⟩ : S82), (⟨a1_0, a1_1⟩ : S82), ()) = some (laws_eqPoint.toH t) := by
  rw [laws_eqPoint.ef]
  (try dsimp only)
  (try simp only [tq_nat])
  (try simp only [tq_eq])
  unfold laws_eqPoint.f at h
  repeat' (with_reducible first
   | exact nos h
   | (cases some_inj h; exact laws_eqPoint.rt _)
   | (simp only [Option.bind_some] at h)
   | (refine ite_by h (fun hc h => ?_) (fun hc h => ?_) <;> (try simp only [nrm] at hc))
   | refine itT ?_ (by first | assumption | omega | (simp only [nrm]; first | done | assumption | omega) | (simp only [nln] at hc ⊢; omega))
   | refine itF ?_ (by first | assumption | omega | (simp only [nrm]; first | done | assumption | omega) | (simp only [nln] at hc ⊢; omega))
   | (simp only [decide_not, Bool.decide_and, decide_true, Bool.and_true, Bool.not_and, beqI, Int.toNat_natCast, List.take_length] at h ⊢)
   | (exfalso; omega))
def laws_eqPlace.Fs : List (Spc env) := [laws_eqPoint.spec]
def laws_eqPlace.cut : Nat → Option (List (Lv SC)) := lk []
def laws_eqPlace.ret (r0 : Bool) : Option (HL eΓ [.b]) := some (r0, ())
def laws_eqPlace.run (k : Nat) (h : HL eΓ [.st .s93, .st .s93]) : Option (HL eΓ [.b]) := evF env laws_eqPlace.Fs Try.f87 laws_eqPlace.cut [.st .s93, .st .s93] [.b] k h
theorem laws_eqPlace.ef (k : Nat) (h0 : S93) (h1 : S93) : laws_eqPlace.run k (h0, h1, ()) = if ¬ h0.f0 = h1.f0 then (laws_eqPlace.ret false) else (laws_eqPoint.ap k (⟨h0.f1.f0, h0.f1.f1⟩ : S82) (⟨h1.f1.f0, h1.f1.f1⟩ : S82) fun r1 => if (!r1) = true then (laws_eqPlace.ret false) else (if ¬ h0.f2 = h1.f2 then (laws_eqPlace.ret false) else (laws_eqPlace.ret true))) := by kernel_rfl
def laws_eqPlace.toH (t : Bool) : HL eΓ [.b] := (t, ())
def laws_eqPlace.spec : Spc env := ⟨87, [.st .s93, .st .s93], [.b], laws_eqPlace.run⟩
def laws_eqPlace.ap {R : Type} (k : Nat) (h0 : S93) (h1 : S93) (K : Bool → Option R) : Option R := (laws_eqPlace.run k (h0, h1, ())).bind fun r => K (r.1 : Bool)
theorem laws_eqPlace.ap_of {R : Type} {k : Nat} {h0 : S93} {h1 : S93} {r0 : Bool} {K : Bool → Option R} (h : laws_eqPlace.run k (h0, h1, ()) = some (r0, ())) : laws_eqPlace.ap k h0 h1 K = K r0 := by unfold laws_eqPlace.ap; rw [h]; rfl
theorem laws_eqPlace.snd : Snd env laws_eqPlace.spec := evF_snd env_ok (sndC laws_eqPoint.snd (sndN)) (by kernel_rfl) (by kernel_rfl) (by kernel_rfl)
attribute [local irreducible] laws_eqPlace.run
theorem laws_eqPlace.rt (a0 : Bool) : laws_eqPlace.ret a0 = some (laws_eqPlace.toH (a0)) := rfl
theorem laws_eqPlace.go {a0_0 : Int} {a0_1 : Int} {a0_2 : Int} {a0_3 : Int} {a1_0 : Int} {a1_1 : Int} {a1_2 : Int} {a1_3 : Int} {t} (h : laws_eqPlace.f a0_0 a0_1 a0_2 a0_3 a1_0 a1_1 a1_2 a1_3 = some t) (K : Nat) : laws_eqPlace.run K ((⟨a0_0, (⟨a0_1, a0_2⟩ : S82), a0_3⟩ : S93), (⟨a1_0, (⟨a1_1, a1_2⟩ : S82), a1_3⟩ : S93), ()) = some (laws_eqPlace.toH t) := by
  rw [laws_eqPlace.ef]
  (try dsimp only)
  (try simp only [tq_nat])
  (try simp only [tq_eq])
  unfold laws_eqPlace.f at h
  repeat' (with_reducible first
   | exact nos h
   | (cases some_inj h; exact laws_eqPlace.rt _)
   | (simp only [Option.bind_some] at h)
   | (refine ite_by h (fun hc h => ?_) (fun hc h => ?_) <;> (try simp only [nrm] at hc))
   | refine itT ?_ (by first | assumption | omega | (simp only [nrm]; first | done | assumption | omega) | (simp only [nln] at hc ⊢; omega))
   | refine itF ?_ (by first | assumption | omega | (simp only [nrm]; first | done | assumption | omega) | (simp only [nln] at hc ⊢; omega))
   | (refine bind_by h (fun t ht h => ?_); refine (laws_eqPoint.ap_of (laws_eqPoint.go ht _)).trans ?_; (try dsimp only at h ⊢))
   | (simp only [decide_not, Bool.decide_and, decide_true, Bool.and_true, Bool.not_and, beqI, Int.toNat_natCast, List.take_length] at h ⊢)
   | (exfalso; omega))
def laws_eqPlaceS.Fs : List (Spc env) := [laws_eqPlace.spec]
def laws_eqPlaceS.fin : St eΓ → Option (HL eΓ [.b]) := finR env Try.f30.results.toList [.b]
def laws_eqPlaceS.cut : Nat → Option (List (Lv SC)) := lk [(4, [⟨0, none, false⟩, ⟨1, none, false⟩, ⟨5, none, false⟩])]
def laws_eqPlaceS.ret (r0 : Bool) : Option (HL eΓ [.b]) := some (r0, ())
def laws_eqPlaceS.p4 (k : Nat) (x5 : Int) (x0 : List S93) (x1 : List S93) : Option (HL eΓ [.b]) := evM env laws_eqPlaceS.Fs Try.f30.ntmps laws_eqPlaceS.fin laws_eqPlaceS.cut k [.code (sub_ [1, 1, 0, 1, 0, 0, 0, 0] (bodyOf Try.f30)), .code (sub_ [1, 1, 0, 1, 0, 0, 0, 1] (bodyOf Try.f30)), .code (sub_ [1, 1, 0, 1, 0, 0, 1] (bodyOf Try.f30)), .lp (sub_ [1, 1, 0, 1, 0, 0] (bodyOf Try.f30)), .blk 0, .code (sub_ [1, 1, 1] (bodyOf Try.f30))] (mkSt [(0, .c (.sl 0)), (1, .c (.sl 1)), (5, .c (.v (.int .i64 x5)))] [.row .ro 93 (.st .s93) x0, .row .ro 93 (.st .s93) x1])
theorem laws_eqPlaceS.e4 (k : Nat) (x5 : Int) (x0 : List S93) (x1 : List S93) : laws_eqPlaceS.p4 (k + 1) x5 x0 x1 = if x5 < (x0.length : Int) then (if 0 ≤ x5 then (if x5 < (x0.length : Int) then (if 0 ≤ x5 then (if x5 < (x1.length : Int) then (laws_eqPlace.ap k (⟨(rd_T93 x0 x5).f0, (⟨(rd_T93 x0 x5).f1.f0, (rd_T93 x0 x5).f1.f1⟩ : S82), (rd_T93 x0 x5).f2⟩ : S93) (⟨(rd_T93 x1 x5).f0, (⟨(rd_T93 x1 x5).f1.f0, (rd_T93 x1 x5).f1.f1⟩ : S82), (rd_T93 x1 x5).f2⟩ : S93) fun r1 => if (!r1) = true then (laws_eqPlaceS.ret false) else (laws_eqPlaceS.p4 k (wrap64 (x5 + 1)) x0 x1)) else none) else none) else none) else none) else (laws_eqPlaceS.ret true) := by kernel_rfl
def laws_eqPlaceS.run (k : Nat) (h : HL eΓ [.l 93 (.st .s93), .l 93 (.st .s93)]) : Option (HL eΓ [.b]) := evF env laws_eqPlaceS.Fs Try.f30 laws_eqPlaceS.cut [.l 93 (.st .s93), .l 93 (.st .s93)] [.b] k h
theorem laws_eqPlaceS.ef (k : Nat) (h0 : List S93) (h1 : List S93) : laws_eqPlaceS.run k (h0, h1, ()) = if ¬ (h0.length : Int) = (h1.length : Int) then (laws_eqPlaceS.ret false) else (laws_eqPlaceS.p4 k 0 h0 h1) := by kernel_rfl
def laws_eqPlaceS.toH (t : Bool) : HL eΓ [.b] := (t, ())
def laws_eqPlaceS.spec : Spc env := ⟨30, [.l 93 (.st .s93), .l 93 (.st .s93)], [.b], laws_eqPlaceS.run⟩
theorem laws_eqPlaceS.snd : Snd env laws_eqPlaceS.spec := evF_snd env_ok (sndC laws_eqPlace.snd (sndN)) (by kernel_rfl) (by kernel_rfl) (by kernel_rfl)
attribute [local irreducible] laws_eqPlaceS.run
theorem laws_eqPlaceS.rt (a0 : Bool) : laws_eqPlaceS.ret a0 = some (laws_eqPlaceS.toH (a0)) := rfl
theorem laws_eqPlaceS.br (n : Nat) : (∀ K, n ≤ K → ∀ (x5 : Int) (x0 : List S93) (x1 : List S93) t, laws_eqPlaceS.l0 n x0 x1 x5 = some t → laws_eqPlaceS.p4 K x5 x0 x1 = some (laws_eqPlaceS.toH t)) := by
  induction n using Nat.strongRecOn with
  | _ n ih =>
  intro K hK x5 x0 x1 t h
  all_goals (rcases n with _ | k)
  all_goals (try (exact nos h))
  all_goals (obtain ⟨K, rfl⟩ : ∃ q, K = q + 1 := ⟨K - 1, by omega⟩)
  all_goals (first | rw [laws_eqPlaceS.e4])
  all_goals (try simp only [tq_nat])
  all_goals (try simp only [tq_eq])
  all_goals (simp only [laws_eqPlaceS.l0] at h)
  repeat' (with_reducible first
   | exact nos h
   | (cases some_inj h; exact laws_eqPlaceS.rt _)
   | exact (ih _ (by omega)) _ (by omega) _ _ _ _ h
   | (simp only [Option.bind_some] at h)
   | (refine ite_by h (fun hc h => ?_) (fun hc h => ?_) <;> (try simp only [nrm] at hc))
   | refine itT ?_ (by first | assumption | omega | (simp only [nrm]; first | done | assumption | omega) | (simp only [nln] at hc ⊢; omega))
   | refine itF ?_ (by first | assumption | omega | (simp only [nrm]; first | done | assumption | omega) | (simp only [nln] at hc ⊢; omega))
   | (refine bind_by h (fun t ht h => ?_); refine (laws_eqPlace.ap_of (laws_eqPlace.go ht _)).trans ?_; (try dsimp only at h ⊢))
   | (simp only [decide_not, Bool.decide_and, decide_true, Bool.and_true, Bool.not_and, beqI, Int.toNat_natCast, List.take_length] at h ⊢)
   | (exfalso; omega))
theorem laws_eqPlaceS.go {k : Nat} {l0 : List S93} {l1 : List S93} {t} (h : laws_eqPlaceS.f k l0 l1 = some t) (K : Nat) (hK : k ≤ K) : laws_eqPlaceS.run K (l0, l1, ()) = some (laws_eqPlaceS.toH t) := by
  rw [laws_eqPlaceS.ef]
  (try dsimp only)
  (try simp only [tq_nat])
  (try simp only [tq_eq])
  unfold laws_eqPlaceS.f at h
  repeat' (with_reducible first
   | exact nos h
   | (cases some_inj h; exact laws_eqPlaceS.rt _)
   | exact (laws_eqPlaceS.br _) _ (by omega) _ _ _ _ h
   | (simp only [Option.bind_some] at h)
   | (refine ite_by h (fun hc h => ?_) (fun hc h => ?_) <;> (try simp only [nrm] at hc))
   | refine itT ?_ (by first | assumption | omega | (simp only [nrm]; first | done | assumption | omega) | (simp only [nln] at hc ⊢; omega))
   | refine itF ?_ (by first | assumption | omega | (simp only [nrm]; first | done | assumption | omega) | (simp only [nln] at hc ⊢; omega))
   | (refine bind_by h (fun t ht h => ?_); refine (laws_eqPlace.ap_of (laws_eqPlace.go ht _)).trans ?_; (try dsimp only at h ⊢))
   | (simp only [decide_not, Bool.decide_and, decide_true, Bool.and_true, Bool.not_and, beqI, Int.toNat_natCast, List.take_length] at h ⊢)
   | (exfalso; omega))
theorem laws_eqPlaceS.calls (k : Nat) (A0 : Option Addr) (c0 : Nat) (l0 : List (S93)) (A1 : Option Addr) (c1 : Nat) (l1 : List (S93)) (r : Bool) (w : World) (hr0 : Kd.C k93 w A0 l0.length l0) (hc0 : l0.length ≤ c0) (hr1 : Kd.C k93 w A1 l1.length l1) (hc1 : l1.length ≤ c1) (h : laws_eqPlaceS.f k l0 l1 = some r) :
  Calls Try.prog 30 #[.slice A0 l0.length c0, .slice A1 l1.length c1] w fun e w' => e = .returned (.bool r) ∧ Below w.heap.size w w' := by
  refine (laws_eqPlaceS.snd.calls _ _ _ (laws_eqPlaceS.go h k (Nat.le_refl k)) w [.slice A0 l0.length c0, .slice A1 l1.length c1] ⟨⟨_, _, rfl, hc0, hr0⟩, ⟨_, _, rfl, hc1, hr1⟩, trivial⟩).mono ?_
  rintro e w' ⟨v, rfl, hB, vs, oks, rfl, hR, _⟩
  obtain ⟨x0_, vs, o0_, oks, rfl, rfl, m0_, hR⟩ := rmsC hR
  obtain rfl := rmsN hR
  obtain rfl := List.singleton_inj.1 (show [x0_] = [Value.bool r] from m0_)
  exact ⟨rfl, hB⟩
def laws_eqPointS.Fs : List (Spc env) := [laws_eqPoint.spec]
def laws_eqPointS.fin : St eΓ → Option (HL eΓ [.b]) := finR env Try.f67.results.toList [.b]
def laws_eqPointS.cut : Nat → Option (List (Lv SC)) := lk [(4, [⟨0, none, false⟩, ⟨1, none, false⟩, ⟨5, none, false⟩])]
def laws_eqPointS.ret (r0 : Bool) : Option (HL eΓ [.b]) := some (r0, ())
def laws_eqPointS.p4 (k : Nat) (x5 : Int) (x0 : List S82) (x1 : List S82) : Option (HL eΓ [.b]) := evM env laws_eqPointS.Fs Try.f67.ntmps laws_eqPointS.fin laws_eqPointS.cut k [.code (sub_ [1, 1, 0, 1, 0, 0, 0, 0] (bodyOf Try.f67)), .code (sub_ [1, 1, 0, 1, 0, 0, 0, 1] (bodyOf Try.f67)), .code (sub_ [1, 1, 0, 1, 0, 0, 1] (bodyOf Try.f67)), .lp (sub_ [1, 1, 0, 1, 0, 0] (bodyOf Try.f67)), .blk 0, .code (sub_ [1, 1, 1] (bodyOf Try.f67))] (mkSt [(0, .c (.sl 0)), (1, .c (.sl 1)), (5, .c (.v (.int .i64 x5)))] [.row .ro 82 (.st .s82) x0, .row .ro 82 (.st .s82) x1])
theorem laws_eqPointS.e4 (k : Nat) (x5 : Int) (x0 : List S82) (x1 : List S82) : laws_eqPointS.p4 (k + 1) x5 x0 x1 = if x5 < (x0.length : Int) then (if 0 ≤ x5 then (if x5 < (x0.length : Int) then (if 0 ≤ x5 then (if x5 < (x1.length : Int) then (laws_eqPoint.ap k (⟨(rd_T82 x0 x5).f0, (rd_T82 x0 x5).f1⟩ : S82) (⟨(rd_T82 x1 x5).f0, (rd_T82 x1 x5).f1⟩ : S82) fun r1 => if (!r1) = true then (laws_eqPointS.ret false) else (laws_eqPointS.p4 k (wrap64 (x5 + 1)) x0 x1)) else none) else none) else none) else none) else (laws_eqPointS.ret true) := by kernel_rfl
def laws_eqPointS.run (k : Nat) (h : HL eΓ [.l 82 (.st .s82), .l 82 (.st .s82)]) : Option (HL eΓ [.b]) := evF env laws_eqPointS.Fs Try.f67 laws_eqPointS.cut [.l 82 (.st .s82), .l 82 (.st .s82)] [.b] k h
end
end Go.Proofs.Ytdfehjfmihokpaa.PFnExactAnchorsOf
