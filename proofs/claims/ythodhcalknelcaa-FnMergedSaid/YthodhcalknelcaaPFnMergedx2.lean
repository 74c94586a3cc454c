-- Written by a program of this session's: the kit's print, turned (turnprint.py): functions, and that Go comes to just their answers.
import Derived.Test.YthodhcalknelcaaZ
import Derived.Test.YthodhcalknelcaaPFnMergedx0
namespace Go.Proofs.Ythodhcalknelcaa.PFnMerged
open Go.RowKit Go.Proofs.YthodhcalknelcaaW.PrintWords Go.Proofs.YthodhcalknelcaaW.PrintLast Go.Proofs.YthodhcalknelcaaW.PrintMore Go.Proofs.YthodhcalknelcaaGeo Go.Proofs.YthodhcalknelcaaHand Go.Proofs.YthodhcalknelcaaZ
attribute [local go_sem] max2_int min2_int max_two min_two max_three min_three max_four min_four   -- for this text's walks alone
set_option linter.unusedVariables false
set_option linter.unusedSimpArgs false

/-! ### impl_InRange: function 78 -/
theorem impl_InRange.any (a0 : Int) (a1 : Int) (a2 : Int) (w : World) :
    Calls Try.prog 78 #[.int .i64 a0, .int .i64 a1, .int .i64 a2] w fun e w' => e = .returned (.bool (inR a0 a1 a2)) ∧ w = w' := by
  go_enter Try.func78, Try.ntmps78; go_wp2
  all_goals (go_ret; refine ⟨?_, rfl⟩; congr 2; first | (simp [inR, *]; done) | (simp [inR, *] <;> omega) | (unfold inR; repeat' split <;> first | rfl | omega))
def impl_InRange.f (a0 : Int) (a1 : Int) (a2 : Int) : Option (Bool) := some (inR a0 a1 a2)
theorem impl_InRange.calls (a0 : Int) (a1 : Int) (a2 : Int) (r : Bool) (w : World) (h : impl_InRange.f a0 a1 a2 = some r) :
    Calls Try.prog 78 #[.int .i64 a0, .int .i64 a1, .int .i64 a2] w fun e w' => e = .returned (.bool (r)) ∧ ∃ nd_ : Nat, w = w' := by
  obtain rfl := Option.some.inj h
  exact (impl_InRange.any a0 a1 a2 w).mono fun e w' ⟨he, hw⟩ => ⟨he, 0, hw⟩
/-! ### impl_IsCover: function 47 -/
mutual
def impl_IsCover.j0 : Nat → Bool → Int → Int → ByteArray → Option (Bool)
 | 0, _, _, _, _ => none
 | k + 1, x24, x102000, x102001, x102002 => if x24 = true then (some false) else (impl_IsCover.l0 k (x102002.size : Int) 0 x102000 x102001 x102002)
def impl_IsCover.l0 : Nat → Int → Int → Int → Int → ByteArray → Option (Bool)
 | 0, _, _, _, _, _ => none
 | k + 1, x27, x28, x102000, x102001, x102002 => if x28 < x27 then (if 0 ≤ x28 then (if x28 < (x102002.size : Int) then (if (bt x102002 x28) < 97 then (some false) else (if (bt x102002 x28) > 122 then (some false) else (impl_IsCover.l0 k x27 (wrap64 (x28 + 1)) x102000 x102001 x102002))) else (none)) else (none)) else (some true)
end
def impl_IsCover.f (k : Nat) (a0_0 : Int) (a0_1 : Int) (a0_2 : ByteArray) : Option (Bool) := (impl_InRange.f a0_0 1 6).bind fun t102 => (if t102 = true then ((impl_InRange.f a0_1 1 6).bind fun t103 => (if t103 = true then (impl_IsCover.j0 k ((a0_2.size : Int) != (wrap64 (a0_0 * a0_1))) a0_0 a0_1 a0_2) else (impl_IsCover.j0 k true a0_0 a0_1 a0_2))) else (impl_IsCover.j0 k true a0_0 a0_1 a0_2))
theorem impl_IsCover.mono_l : ∀ k, (∀ y0 y1 y2 y3, LeO (impl_IsCover.j0 k y0 y1 y2 y3) (impl_IsCover.j0 (k + 1) y0 y1 y2 y3)) ∧ (∀ y0 y1 y2 y3 y4, LeO (impl_IsCover.l0 k y0 y1 y2 y3 y4) (impl_IsCover.l0 (k + 1) y0 y1 y2 y3 y4))
 | 0 => ⟨fun _ _ _ _ r h => by simp [impl_IsCover.j0] at h, fun _ _ _ _ _ r h => by simp [impl_IsCover.l0] at h⟩
 | k + 1 => by
  obtain ⟨ih0, ih1⟩ := impl_IsCover.mono_l k; refine ⟨?_, ?_⟩
  ·intro y0 y1 y2 y3
   unfold impl_IsCover.j0
   repeat' first | (with_reducible first | exact ih0 _ _ _ _ | exact ih1 _ _ _ _ _ | exact LeO.refl _ | exact LeO.none _ | refine LeO.ite ?_ ?_ | refine LeO.bind ?_ (fun _ => ?_)) | exact ih0 _ _ _ _ | exact ih1 _ _ _ _ _ | exact LeO.none _ | refine LeO.ite ?_ ?_ | refine LeO.bind ?_ (fun _ => ?_)
  ·intro y0 y1 y2 y3 y4
   unfold impl_IsCover.l0
   repeat' first | (with_reducible first | exact ih0 _ _ _ _ | exact ih1 _ _ _ _ _ | exact LeO.refl _ | exact LeO.none _ | refine LeO.ite ?_ ?_ | refine LeO.bind ?_ (fun _ => ?_)) | exact ih0 _ _ _ _ | exact ih1 _ _ _ _ _ | exact LeO.none _ | refine LeO.ite ?_ ?_ | refine LeO.bind ?_ (fun _ => ?_)
theorem impl_IsCover.mono : ∀ a0 a1 a2 k, LeO (impl_IsCover.f k a0 a1 a2) (impl_IsCover.f (k + 1) a0 a1 a2) := by
 intro a0 a1 a2 k; obtain ⟨ih0, ih1⟩ := impl_IsCover.mono_l k
 unfold impl_IsCover.f
 repeat' first | (with_reducible first | exact ih0 _ _ _ _ | exact ih1 _ _ _ _ _ | exact LeO.refl _ | exact LeO.none _ | refine LeO.ite ?_ ?_ | refine LeO.bind ?_ (fun _ => ?_)) | exact ih0 _ _ _ _ | exact ih1 _ _ _ _ _ | exact LeO.none _ | refine LeO.ite ?_ ?_ | refine LeO.bind ?_ (fun _ => ?_)
set_option maxHeartbeats 8000000 in
set_option maxRecDepth 100000 in
theorem impl_IsCover.calls (k : Nat) (a0_0 : Int) (a0_1 : Int) (a0_2 : ByteArray) (r : Bool) (w : World) (h : impl_IsCover.f k a0_0 a0_1 a0_2 = some r) :
  Calls Try.prog 47 #[.agg #[.int .i64 a0_0, .int .i64 a0_1, .string a0_2]] w fun e w' => e = .returned (.bool r) ∧ Below w.heap.size w w' := by
 have hu26 := Try.underlying26; have HB := Aside0.mk (Below.refl w.heap.size w); have H : ((impl_InRange.f a0_0 1 6).bind fun t102 => (if t102 = true then ((impl_InRange.f a0_1 1 6).bind fun t103 => (if t103 = true then (impl_IsCover.j0 k ((a0_2.size : Int) != (wrap64 (a0_0 * a0_1))) a0_0 a0_1 a0_2) else (impl_IsCover.j0 k true a0_0 a0_1 a0_2))) else (impl_IsCover.j0 k true a0_0 a0_1 a0_2))) = some r := h; clear h; have HC2 := Aside0.mk H; clear H
 go_enter Try.func47, Try.ntmps47
 go_upto_region 1 with (first | ((with_reducible refine gate_dst (N := 1) rfl ?_); (try (refine gate_guard (by rfl) ?_; dsimp only)); refine box_event ?hg (N := 1) ?hd (cs := #[.int .i64 a0_0, .int .i64 a0_1, .string a0_2]) (t := 26) ?hr ?_; (case hd => rfl); (case hg => rfl); (case hr => first | (go_simp; done) | (go_simp; rfl)); intro gb101 hg w3 hbox hb; have BK101 := Aside0.mk (hbox); have GW101 := Aside0.mk (gez HB hg); have GE101 := Aside0.mk (gez HB hg); replace HB := Aside0.mk (below_step bz hb); clear hb hbox hg))
 (try simp only [Act.put, List.setIfInBounds_toArray, List.set_cons_zero, List.set_cons_succ])
 go_cut [24] (fun v24 wc => ∃ (kq : Nat) (x24_1 : Bool), v24 = .bool x24_1 ∧ Aside0 (impl_IsCover.j0 kq x24_1 a0_0 a0_1 a0_2 = some r) ∧ Aside0 (kq ≤ k) ∧ Aside0 (wc.heap[gb101]? = some (.cells #[.int .i64 a0_0, .int .i64 a0_1, .string a0_2] 26 (0, 0))) ∧ Aside0 (Below w.heap.size w wc))
 case first =>
  have H := HC2.out; clear HC2; replace H := Option.bind_eq_some_iff.mp H; obtain ⟨t102, A40, H⟩ := H; have A4 := Aside0.mk A40; clear A40
  by_cases c5 : t102 = true
  ·subst c5; replace H := ift H; replace H := Option.bind_eq_some_iff.mp H; obtain ⟨t103, A60, H⟩ := H; have A6 := Aside0.mk A60; clear A60
   by_cases c7 : t103 = true
   ·subst c7; replace H := ift H; have H' := Aside0.mk H; clear H; obtain ⟨hcz8_0, hcz8_1, hcz8_2, hfz8_0, hfz8_1, hfz8_2⟩ := cells3 BK101; go_wp2_with (first | ((with_reducible refine gt (some 6) rfl ?_); refine gc Try.func78 (impl_InRange.calls a0_0 1 6 true _ A4.out) ?_; rintro e w' ⟨rfl, ⟨nd, rfl⟩⟩; refine ⟨_, rfl, ?_⟩) | (go_at_call 78; (with_reducible refine (impl_InRange.calls a0_1 1 6 true _ A6.out).mono ?_); rintro e w' ⟨rfl, ⟨nd, rfl⟩⟩))
    go_meet
    case rel => exact ⟨_, (((a0_2.size : Int) != (wrap64 (a0_0 * a0_1)))), rz, H', ⟨qz⟩, ⟨kz BK101⟩, ⟨bzs⟩⟩
   ·replace c7 := Bool.eq_false_iff.mpr c7; subst c7; replace H := iff_ H; have H' := Aside0.mk H; clear H; obtain ⟨hcz9_0, hcz9_1, hcz9_2, hfz9_0, hfz9_1, hfz9_2⟩ := cells3 BK101; go_wp2_with (first | ((with_reducible refine gt (some 6) rfl ?_); refine gc Try.func78 (impl_InRange.calls a0_0 1 6 true _ A4.out) ?_; rintro e w' ⟨rfl, ⟨nd, rfl⟩⟩; refine ⟨_, rfl, ?_⟩) | (go_at_call 78; (with_reducible refine (impl_InRange.calls a0_1 1 6 false _ A6.out).mono ?_); rintro e w' ⟨rfl, ⟨nd, rfl⟩⟩))
    go_meet
    case rel => exact ⟨_, (true), rz, H', ⟨qz⟩, ⟨kz BK101⟩, ⟨bzs⟩⟩
  ·replace c5 := Bool.eq_false_iff.mpr c5; subst c5; replace H := iff_ H; have H' := Aside0.mk H; clear H; obtain ⟨hcz10_0, hcz10_1, hcz10_2, hfz10_0, hfz10_1, hfz10_2⟩ := cells3 BK101; go_wp2_with (first | ((with_reducible refine gt (some 6) rfl ?_); refine gc Try.func78 (impl_InRange.calls a0_0 1 6 false _ A4.out) ?_; rintro e w' ⟨rfl, ⟨nd, rfl⟩⟩; refine ⟨_, rfl, ?_⟩))
   go_meet
   case rel => exact ⟨_, (true), rz, H', ⟨qz⟩, ⟨kz BK101⟩, ⟨bzs⟩⟩
 case rest =>
  clear HC2; (try clear p2); (try clear c4); (try clear c5); (try clear p6); (try clear c7); (try clear hcz10_0); (try clear hcz10_1); (try clear hcz10_2); (try clear hcz8_0); (try clear hcz8_1); (try clear hcz8_2); (try clear hcz9_0); (try clear hcz9_1); (try clear hcz9_2); (try clear hfz10_0); (try clear hfz10_1); (try clear hfz10_2); (try clear hfz8_0); (try clear hfz8_1); (try clear hfz8_2); (try clear hfz9_0); (try clear hfz9_1); (try clear hfz9_2); obtain ⟨kq, x24_1, rfl, HA, HJ1, BK101, HB⟩ := hcut
  cases kq with
  | zero => exact absurd HA.out (by simp [impl_IsCover.j0])
  | succ kj1 =>
   have H := HA.out; clear HA; simp only [impl_IsCover.j0] at H
   by_cases c11 : x24_1 = true
   ·subst c11; replace H := ift H; obtain rfl := Option.some.inj H; go_wp2; go_ret
    exact ⟨ez, bzs⟩
   ·replace c11 := Bool.eq_false_iff.mpr c11; subst c11; replace H := iff_ H; have H' := Aside0.mk H; clear H; obtain ⟨hcz12_0, hcz12_1, hcz12_2, hfz12_0, hfz12_1, hfz12_2⟩ := cells3 BK101; go_wp2; (try simp only [Act.put, List.setIfInBounds_toArray, List.set_cons_zero, List.set_cons_succ])
    go_loopg [28] kj1 (fun kq v28 w' => ∃ (x28_2 : Int), v28 = .int .i64 x28_2 ∧ Aside0 (impl_IsCover.l0 kq (a0_2.size : Int) x28_2 a0_0 a0_1 a0_2 = some r) ∧ Aside0 (kq ≤ kj1) ∧ Aside0 (w'.heap[gb101]? = some (.cells #[.int .i64 a0_0, .int .i64 a0_1, .string a0_2] 26 (0, 0))) ∧ Aside0 (Below w.heap.size w w'))
    case atStart => exact ⟨(0), rz, H', ⟨Nat.le_refl _⟩, ⟨kz BK101⟩, ⟨bzs⟩⟩
    case round =>
     clear H'; (try clear c1); (try clear p2); (try clear c4); (try clear c5); (try clear p6); (try clear c7); (try clear c11); (try clear hcz10_0); (try clear hcz10_1); (try clear hcz10_2); (try clear hcz12_0); (try clear hcz12_1); (try clear hcz12_2); (try clear hcz8_0); (try clear hcz8_1); (try clear hcz8_2); (try clear hcz9_0); (try clear hcz9_1); (try clear hcz9_2); (try clear hfz10_0); (try clear hfz10_1); (try clear hfz10_2); (try clear hfz12_0); (try clear hfz12_1); (try clear hfz12_2); (try clear hfz8_0); (try clear hfz8_1); (try clear hfz8_2); (try clear hfz9_0); (try clear hfz9_1); (try clear hfz9_2); (try clear p2); (try clear p6); obtain ⟨x28_2, rfl, HA, HK2, BK101, HB⟩ := hrel
     cases gk with
     | zero => exact absurd HA.out (by simp [impl_IsCover.l0])
     | succ k2 =>
      have H := HA.out; clear HA; simp only [impl_IsCover.l0] at H
      by_cases c13 : x28_2 < (a0_2.size : Int)
      ·rw [if_pos c13] at H; have c13b0 := decide_eq_true c13; clear c13
       by_cases c14 : 0 ≤ x28_2
       ·rw [if_pos c14] at H; have c14b0 := decide_eq_true c14; clear c14
        by_cases c15 : x28_2 < (a0_2.size : Int)
        ·rw [if_pos c15] at H; have c15b0 := decide_eq_true c15; clear c15
         by_cases c17 : (bt a0_2 x28_2) < 97
         ·rw [if_pos c17] at H; have c17b0 := decide_eq_true c17; clear c17; obtain rfl := Option.some.inj H; obtain ⟨hcz18_0, hcz18_1, hcz18_2, hfz18_0, hfz18_1, hfz18_2⟩ := cells3 BK101; have p16 : 0 ≤ (x28_2 : Int) := of_decide_eq_true az; have q16 : x28_2 < (a0_2.size : Int) := of_decide_eq_true az; have hx16 := bt_at a0_2 x28_2; replace p16 := eq_true p16; replace q16 := eq_true q16; go_wp2; go_ret
          exact ⟨ez, bzs⟩
         ·rw [if_neg c17] at H; have c17b0 := decide_eq_false c17; clear c17
          by_cases c20 : (bt a0_2 x28_2) > 122
          ·rw [if_pos c20] at H; have c20b0 := decide_eq_true c20; clear c20; obtain rfl := Option.some.inj H; obtain ⟨hcz21_0, hcz21_1, hcz21_2, hfz21_0, hfz21_1, hfz21_2⟩ := cells3 BK101; have p16 : 0 ≤ (x28_2 : Int) := of_decide_eq_true az; have q16 : x28_2 < (a0_2.size : Int) := of_decide_eq_true az; have hx16 := bt_at a0_2 x28_2; replace p16 := eq_true p16; replace q16 := eq_true q16; have p19 : 0 ≤ (x28_2 : Int) := of_decide_eq_true az; have q19 : x28_2 < (a0_2.size : Int) := of_decide_eq_true az; have hx19 := bt_at a0_2 x28_2; replace p19 := eq_true p19; replace q19 := eq_true q19; go_wp2; go_ret
           exact ⟨ez, bzs⟩
          ·rw [if_neg c20] at H; have c20b0 := decide_eq_false c20; clear c20; have H' := Aside0.mk H; clear H; obtain ⟨hcz22_0, hcz22_1, hcz22_2, hfz22_0, hfz22_1, hfz22_2⟩ := cells3 BK101; have p16 : 0 ≤ (x28_2 : Int) := of_decide_eq_true az; have q16 : x28_2 < (a0_2.size : Int) := of_decide_eq_true az; have hx16 := bt_at a0_2 x28_2; replace p16 := eq_true p16; replace q16 := eq_true q16; have p19 : 0 ≤ (x28_2 : Int) := of_decide_eq_true az; have q19 : x28_2 < (a0_2.size : Int) := of_decide_eq_true az; have hx19 := bt_at a0_2 x28_2; replace p19 := eq_true p19; replace q19 := eq_true q19; go_wp2
           go_roundg k2
           case measure => have := HJ1.out; have := HK2.out; omega
           case rel => exact ⟨(wrap64 (x28_2 + 1)), rz, H', ⟨by have := HJ1.out; have := HK2.out; omega⟩, ⟨kz BK101⟩, ⟨bzs⟩⟩
        ·rw [if_neg c15] at H
         exact absurd H (by simp)
       ·rw [if_neg c14] at H
        exact absurd H (by simp)
      ·rw [if_neg c13] at H; have c13b0 := decide_eq_false c13; clear c13; obtain rfl := Option.some.inj H; go_wp2; go_ret
       exact ⟨ez, bzs⟩

/-! ### impl_SameLabels: function 22 -/
mutual
def impl_SameLabels.j0 : Nat → Bool → Int → Int → ByteArray → Int → Int → ByteArray → Option (Int)
 | 0, _, _, _, _, _, _, _ => none
 | k + 1, x28, x105000, x105001, x105002, x106000, x106001, x106002 => if x28 = true then (some 0) else (impl_SameLabels.l0 k 0 (x105002.size : Int) 0 x105000 x105001 x105002 x106000 x106001 x106002)
def impl_SameLabels.l0 : Nat → Int → Int → Int → Int → Int → ByteArray → Int → Int → ByteArray → Option (Int)
 | 0, _, _, _, _, _, _, _, _, _ => none
 | k + 1, x5, x31, x32, x105000, x105001, x105002, x106000, x106001, x106002 => if x32 < x31 then (if 0 ≤ x32 then (if x32 < (x105002.size : Int) then (if x32 < (x106002.size : Int) then (if (bt x105002 x32) = (bt x106002 x32) then (impl_SameLabels.l0 k (wrap64 (x5 + 1)) x31 (wrap64 (x32 + 1)) x105000 x105001 x105002 x106000 x106001 x106002) else (impl_SameLabels.l0 k x5 x31 (wrap64 (x32 + 1)) x105000 x105001 x105002 x106000 x106001 x106002)) else (none)) else (none)) else (none)) else (some x5)
end
def impl_SameLabels.f (k : Nat) (a0_0 : Int) (a0_1 : Int) (a0_2 : ByteArray) (a1_0 : Int) (a1_1 : Int) (a1_2 : ByteArray) : Option (Int) := (impl_IsCover.f k a0_0 a0_1 a0_2).bind fun t106 => (if t106 = true then ((impl_IsCover.f k a1_0 a1_1 a1_2).bind fun t107 => (if t107 = true then (if a0_0 = a1_0 then (impl_SameLabels.j0 k (a0_1 != a1_1) a0_0 a0_1 a0_2 a1_0 a1_1 a1_2) else (impl_SameLabels.j0 k true a0_0 a0_1 a0_2 a1_0 a1_1 a1_2)) else (impl_SameLabels.j0 k true a0_0 a0_1 a0_2 a1_0 a1_1 a1_2))) else (impl_SameLabels.j0 k true a0_0 a0_1 a0_2 a1_0 a1_1 a1_2))
theorem impl_SameLabels.mono_l : ∀ k, (∀ y0 y1 y2 y3 y4 y5 y6, LeO (impl_SameLabels.j0 k y0 y1 y2 y3 y4 y5 y6) (impl_SameLabels.j0 (k + 1) y0 y1 y2 y3 y4 y5 y6)) ∧ (∀ y0 y1 y2 y3 y4 y5 y6 y7 y8, LeO (impl_SameLabels.l0 k y0 y1 y2 y3 y4 y5 y6 y7 y8) (impl_SameLabels.l0 (k + 1) y0 y1 y2 y3 y4 y5 y6 y7 y8))
 | 0 => ⟨fun _ _ _ _ _ _ _ r h => by simp [impl_SameLabels.j0] at h, fun _ _ _ _ _ _ _ _ _ r h => by simp [impl_SameLabels.l0] at h⟩
 | k + 1 => by
  obtain ⟨ih0, ih1⟩ := impl_SameLabels.mono_l k; refine ⟨?_, ?_⟩
  ·intro y0 y1 y2 y3 y4 y5 y6
   unfold impl_SameLabels.j0
   repeat' first | (with_reducible first | exact ih0 _ _ _ _ _ _ _ | exact ih1 _ _ _ _ _ _ _ _ _ | exact impl_IsCover.mono _ _ _ _ | exact LeO.refl _ | exact LeO.none _ | refine LeO.ite ?_ ?_ | refine LeO.bind ?_ (fun _ => ?_)) | exact ih0 _ _ _ _ _ _ _ | exact ih1 _ _ _ _ _ _ _ _ _ | exact impl_IsCover.mono _ _ _ _ | exact LeO.none _ | refine LeO.ite ?_ ?_ | refine LeO.bind ?_ (fun _ => ?_)
  ·intro y0 y1 y2 y3 y4 y5 y6 y7 y8
   unfold impl_SameLabels.l0
   repeat' first | (with_reducible first | exact ih0 _ _ _ _ _ _ _ | exact ih1 _ _ _ _ _ _ _ _ _ | exact impl_IsCover.mono _ _ _ _ | exact LeO.refl _ | exact LeO.none _ | refine LeO.ite ?_ ?_ | refine LeO.bind ?_ (fun _ => ?_)) | exact ih0 _ _ _ _ _ _ _ | exact ih1 _ _ _ _ _ _ _ _ _ | exact impl_IsCover.mono _ _ _ _ | exact LeO.none _ | refine LeO.ite ?_ ?_ | refine LeO.bind ?_ (fun _ => ?_)
theorem impl_SameLabels.mono : ∀ a0 a1 a2 a3 a4 a5 k, LeO (impl_SameLabels.f k a0 a1 a2 a3 a4 a5) (impl_SameLabels.f (k + 1) a0 a1 a2 a3 a4 a5) := by
 intro a0 a1 a2 a3 a4 a5 k; obtain ⟨ih0, ih1⟩ := impl_SameLabels.mono_l k
 unfold impl_SameLabels.f
 repeat' first | (with_reducible first | exact ih0 _ _ _ _ _ _ _ | exact ih1 _ _ _ _ _ _ _ _ _ | exact impl_IsCover.mono _ _ _ _ | exact LeO.refl _ | exact LeO.none _ | refine LeO.ite ?_ ?_ | refine LeO.bind ?_ (fun _ => ?_)) | exact ih0 _ _ _ _ _ _ _ | exact ih1 _ _ _ _ _ _ _ _ _ | exact impl_IsCover.mono _ _ _ _ | exact LeO.none _ | refine LeO.ite ?_ ?_ | refine LeO.bind ?_ (fun _ => ?_)
set_option maxHeartbeats 8000000 in
set_option maxRecDepth 100000 in
theorem impl_SameLabels.calls (k : Nat) (a0_0 : Int) (a0_1 : Int) (a0_2 : ByteArray) (a1_0 : Int) (a1_1 : Int) (a1_2 : ByteArray) (r : Int) (w : World) (h : impl_SameLabels.f k a0_0 a0_1 a0_2 a1_0 a1_1 a1_2 = some r) :
  Calls Try.prog 22 #[.agg #[.int .i64 a0_0, .int .i64 a0_1, .string a0_2], .agg #[.int .i64 a1_0, .int .i64 a1_1, .string a1_2]] w fun e w' => e = .returned (.int .i64 r) ∧ Below w.heap.size w w' := by
 have hu26 := Try.underlying26; have HB := Aside0.mk (Below.refl w.heap.size w); have H : ((impl_IsCover.f k a0_0 a0_1 a0_2).bind fun t106 => (if t106 = true then ((impl_IsCover.f k a1_0 a1_1 a1_2).bind fun t107 => (if t107 = true then (if a0_0 = a1_0 then (impl_SameLabels.j0 k (a0_1 != a1_1) a0_0 a0_1 a0_2 a1_0 a1_1 a1_2) else (impl_SameLabels.j0 k true a0_0 a0_1 a0_2 a1_0 a1_1 a1_2)) else (impl_SameLabels.j0 k true a0_0 a0_1 a0_2 a1_0 a1_1 a1_2))) else (impl_SameLabels.j0 k true a0_0 a0_1 a0_2 a1_0 a1_1 a1_2))) = some r := h; clear h; have HC3 := Aside0.mk H; clear H
 go_enter Try.func22, Try.ntmps22
 go_upto_region 1 with (first | ((with_reducible refine gt (some 2) rfl ?_); refine bx #[.int .i64 a0_0, .int .i64 a0_1, .string a0_2] 26 ?_; intro gb104 hg w4 hbox hb; have BK104 := Aside0.mk (hbox); have GW104 := Aside0.mk (gez HB hg); have GE104 := Aside0.mk (gez HB hg); replace HB := Aside0.mk (below_step bz hb); clear hb hbox hg) | ((with_reducible refine gt (some 3) rfl ?_); refine bx #[.int .i64 a1_0, .int .i64 a1_1, .string a1_2] 26 ?_; intro gb105 hg w5 hbox hb; have BK105 := Aside0.mk (hbox); have GW105 := Aside0.mk (gez HB hg); have GE105 := Aside0.mk (gez HB hg); replace HB := Aside0.mk (below_step bzs hb); have NB104_105 := Aside0.mk ((by rw [hg]; exact Nat.ne_of_lt (blk_lt (g := gb104) (o := .cells #[.int .i64 a0_0, .int .i64 a0_1, .string a0_2] 26 (0, 0)) (kz BK104)) : gb104 ≠ gb105)); have NB105_104 := Aside0.mk ((by rw [hg]; exact Nat.ne_of_gt (blk_lt (g := gb104) (o := .cells #[.int .i64 a0_0, .int .i64 a0_1, .string a0_2] 26 (0, 0)) (kz BK104)) : gb105 ≠ gb104)); replace BK104 := Aside0.mk (bbz BK104 hb); clear hb hbox hg))
 repeat (go_quiet (first | ((with_reducible refine gt (some 2) rfl ?_); refine bx #[.int .i64 a0_0, .int .i64 a0_1, .string a0_2] 26 ?_; intro gb104 hg w4 hbox hb; have BK104 := Aside0.mk (hbox); have GW104 := Aside0.mk (gez HB hg); have GE104 := Aside0.mk (gez HB hg); replace HB := Aside0.mk (below_step bz hb); clear hb hbox hg) | ((with_reducible refine gt (some 3) rfl ?_); refine bx #[.int .i64 a1_0, .int .i64 a1_1, .string a1_2] 26 ?_; intro gb105 hg w5 hbox hb; have BK105 := Aside0.mk (hbox); have GW105 := Aside0.mk (gez HB hg); have GE105 := Aside0.mk (gez HB hg); replace HB := Aside0.mk (below_step bzs hb); have NB104_105 := Aside0.mk ((by rw [hg]; exact Nat.ne_of_lt (blk_lt (g := gb104) (o := .cells #[.int .i64 a0_0, .int .i64 a0_1, .string a0_2] 26 (0, 0)) (kz BK104)) : gb104 ≠ gb105)); have NB105_104 := Aside0.mk ((by rw [hg]; exact Nat.ne_of_gt (blk_lt (g := gb104) (o := .cells #[.int .i64 a0_0, .int .i64 a0_1, .string a0_2] 26 (0, 0)) (kz BK104)) : gb105 ≠ gb104)); replace BK104 := Aside0.mk (bbz BK104 hb); clear hb hbox hg)); go_upto_region 1 with (first | ((with_reducible refine gt (some 2) rfl ?_); refine bx #[.int .i64 a0_0, .int .i64 a0_1, .string a0_2] 26 ?_; intro gb104 hg w4 hbox hb; have BK104 := Aside0.mk (hbox); have GW104 := Aside0.mk (gez HB hg); have GE104 := Aside0.mk (gez HB hg); replace HB := Aside0.mk (below_step bz hb); clear hb hbox hg) | ((with_reducible refine gt (some 3) rfl ?_); refine bx #[.int .i64 a1_0, .int .i64 a1_1, .string a1_2] 26 ?_; intro gb105 hg w5 hbox hb; have BK105 := Aside0.mk (hbox); have GW105 := Aside0.mk (gez HB hg); have GE105 := Aside0.mk (gez HB hg); replace HB := Aside0.mk (below_step bzs hb); have NB104_105 := Aside0.mk ((by rw [hg]; exact Nat.ne_of_lt (blk_lt (g := gb104) (o := .cells #[.int .i64 a0_0, .int .i64 a0_1, .string a0_2] 26 (0, 0)) (kz BK104)) : gb104 ≠ gb105)); have NB105_104 := Aside0.mk ((by rw [hg]; exact Nat.ne_of_gt (blk_lt (g := gb104) (o := .cells #[.int .i64 a0_0, .int .i64 a0_1, .string a0_2] 26 (0, 0)) (kz BK104)) : gb105 ≠ gb104)); replace BK104 := Aside0.mk (bbz BK104 hb); clear hb hbox hg)))
 (try simp only [Act.put, List.setIfInBounds_toArray, List.set_cons_zero, List.set_cons_succ])
 go_cut [28] (fun v28 wc => ∃ (kq : Nat) (x28_2 : Bool), v28 = .bool x28_2 ∧ Aside0 (impl_SameLabels.j0 kq x28_2 a0_0 a0_1 a0_2 a1_0 a1_1 a1_2 = some r) ∧ Aside0 (kq ≤ k) ∧ Aside0 (wc.heap[gb104]? = some (.cells #[.int .i64 a0_0, .int .i64 a0_1, .string a0_2] 26 (0, 0))) ∧ Aside0 (wc.heap[gb105]? = some (.cells #[.int .i64 a1_0, .int .i64 a1_1, .string a1_2] 26 (0, 0))) ∧ Aside0 (Below w.heap.size w wc))
 case first =>
  have H := HC3.out; clear HC3; replace H := Option.bind_eq_some_iff.mp H; obtain ⟨t106, A60, H⟩ := H; have A6 := Aside0.mk A60; clear A60
  by_cases c7 : t106 = true
  ·subst c7; replace H := ift H; replace H := Option.bind_eq_some_iff.mp H; obtain ⟨t107, A80, H⟩ := H; have A8 := Aside0.mk A80; clear A80
   by_cases c9 : t107 = true
   ·subst c9; replace H := ift H
    by_cases c10 : a0_0 = a1_0
    ·rw [if_pos c10] at H; have c10b0 : (a0_0 == a1_0) = true := beq_iff_eq.mpr c10; have c10b1 : (a0_0 != a1_0) = false := bne_eq_false_iff_eq.mpr c10; clear c10
     (first | rw [c10b0] | (simp only [i64_w, i32_w]; rw [c10b0]) | skip)
     have H' := Aside0.mk H; clear H; have hnb11 := NB104_105.out; have hnc11 := NB105_104.out; obtain ⟨hcz12_0, hcz12_1, hcz12_2, hfz12_0, hfz12_1, hfz12_2⟩ := cells3 BK104; go_wp2_with (first | (go_at_call 47; (with_reducible refine (impl_IsCover.calls k a0_0 a0_1 a0_2 true _ A6.out).mono ?_); rintro e w13 ⟨rfl, hb⟩; replace BK104 := Aside0.mk (bbz BK104 hb); replace BK105 := Aside0.mk (bbz BK105 hb); replace HB := Aside0.mk (below_step bzs hb); (try clear hb); obtain ⟨hcz14_0, hcz14_1, hcz14_2, hfz14_0, hfz14_1, hfz14_2⟩ := cells3 BK105) | (go_at_call 47; (with_reducible refine (impl_IsCover.calls k a1_0 a1_1 a1_2 true _ A8.out).mono ?_); rintro e w15 ⟨rfl, hb⟩; replace BK104 := Aside0.mk (bbz BK104 hb); replace BK105 := Aside0.mk (bbz BK105 hb); replace HB := Aside0.mk (below_step bzs hb); (try clear hb); obtain ⟨hcz16_0, hcz16_1, hcz16_2, hfz16_0, hfz16_1, hfz16_2⟩ := cells3 BK104; obtain ⟨hcz17_0, hcz17_1, hcz17_2, hfz17_0, hfz17_1, hfz17_2⟩ := cells3 BK105))
     repeat (go_quiet (first | (go_at_call 47; (with_reducible refine (impl_IsCover.calls k a0_0 a0_1 a0_2 true _ A6.out).mono ?_); rintro e w13 ⟨rfl, hb⟩; replace BK104 := Aside0.mk (bbz BK104 hb); replace BK105 := Aside0.mk (bbz BK105 hb); replace HB := Aside0.mk (below_step bzs hb); (try clear hb); obtain ⟨hcz14_0, hcz14_1, hcz14_2, hfz14_0, hfz14_1, hfz14_2⟩ := cells3 BK105) | (go_at_call 47; (with_reducible refine (impl_IsCover.calls k a1_0 a1_1 a1_2 true _ A8.out).mono ?_); rintro e w15 ⟨rfl, hb⟩; replace BK104 := Aside0.mk (bbz BK104 hb); replace BK105 := Aside0.mk (bbz BK105 hb); replace HB := Aside0.mk (below_step bzs hb); (try clear hb); obtain ⟨hcz16_0, hcz16_1, hcz16_2, hfz16_0, hfz16_1, hfz16_2⟩ := cells3 BK104; obtain ⟨hcz17_0, hcz17_1, hcz17_2, hfz17_0, hfz17_1, hfz17_2⟩ := cells3 BK105)); try go_wp2_with (first | (go_at_call 47; (with_reducible refine (impl_IsCover.calls k a0_0 a0_1 a0_2 true _ A6.out).mono ?_); rintro e w13 ⟨rfl, hb⟩; replace BK104 := Aside0.mk (bbz BK104 hb); replace BK105 := Aside0.mk (bbz BK105 hb); replace HB := Aside0.mk (below_step bzs hb); (try clear hb); obtain ⟨hcz14_0, hcz14_1, hcz14_2, hfz14_0, hfz14_1, hfz14_2⟩ := cells3 BK105) | (go_at_call 47; (with_reducible refine (impl_IsCover.calls k a1_0 a1_1 a1_2 true _ A8.out).mono ?_); rintro e w15 ⟨rfl, hb⟩; replace BK104 := Aside0.mk (bbz BK104 hb); replace BK105 := Aside0.mk (bbz BK105 hb); replace HB := Aside0.mk (below_step bzs hb); (try clear hb); obtain ⟨hcz16_0, hcz16_1, hcz16_2, hfz16_0, hfz16_1, hfz16_2⟩ := cells3 BK104; obtain ⟨hcz17_0, hcz17_1, hcz17_2, hfz17_0, hfz17_1, hfz17_2⟩ := cells3 BK105)))
     go_meet
     case rel => exact ⟨_, ((a0_1 != a1_1)), rz, H', ⟨qz⟩, ⟨kz BK104⟩, ⟨kz BK105⟩, ⟨bzs⟩⟩
    ·rw [if_neg c10] at H; have c10b0 : (a0_0 == a1_0) = false := beq_eq_false_iff_ne.mpr c10; have c10b1 : (a0_0 != a1_0) = true := bne_iff_ne.mpr c10
     (first | rw [c10b0] | (simp only [i64_w, i32_w]; rw [c10b0]) | skip)
     have H' := Aside0.mk H; clear H; have hnb18 := NB104_105.out; have hnc18 := NB105_104.out; obtain ⟨hcz19_0, hcz19_1, hcz19_2, hfz19_0, hfz19_1, hfz19_2⟩ := cells3 BK104; go_wp2_with (first | (go_at_call 47; (with_reducible refine (impl_IsCover.calls k a0_0 a0_1 a0_2 true _ A6.out).mono ?_); rintro e w20 ⟨rfl, hb⟩; replace BK104 := Aside0.mk (bbz BK104 hb); replace BK105 := Aside0.mk (bbz BK105 hb); replace HB := Aside0.mk (below_step bzs hb); (try clear hb); obtain ⟨hcz21_0, hcz21_1, hcz21_2, hfz21_0, hfz21_1, hfz21_2⟩ := cells3 BK105) | (go_at_call 47; (with_reducible refine (impl_IsCover.calls k a1_0 a1_1 a1_2 true _ A8.out).mono ?_); rintro e w22 ⟨rfl, hb⟩; replace BK104 := Aside0.mk (bbz BK104 hb); replace BK105 := Aside0.mk (bbz BK105 hb); replace HB := Aside0.mk (below_step bzs hb); (try clear hb); obtain ⟨hcz23_0, hcz23_1, hcz23_2, hfz23_0, hfz23_1, hfz23_2⟩ := cells3 BK104; obtain ⟨hcz24_0, hcz24_1, hcz24_2, hfz24_0, hfz24_1, hfz24_2⟩ := cells3 BK105))
     repeat (go_quiet (first | (go_at_call 47; (with_reducible refine (impl_IsCover.calls k a0_0 a0_1 a0_2 true _ A6.out).mono ?_); rintro e w20 ⟨rfl, hb⟩; replace BK104 := Aside0.mk (bbz BK104 hb); replace BK105 := Aside0.mk (bbz BK105 hb); replace HB := Aside0.mk (below_step bzs hb); (try clear hb); obtain ⟨hcz21_0, hcz21_1, hcz21_2, hfz21_0, hfz21_1, hfz21_2⟩ := cells3 BK105) | (go_at_call 47; (with_reducible refine (impl_IsCover.calls k a1_0 a1_1 a1_2 true _ A8.out).mono ?_); rintro e w22 ⟨rfl, hb⟩; replace BK104 := Aside0.mk (bbz BK104 hb); replace BK105 := Aside0.mk (bbz BK105 hb); replace HB := Aside0.mk (below_step bzs hb); (try clear hb); obtain ⟨hcz23_0, hcz23_1, hcz23_2, hfz23_0, hfz23_1, hfz23_2⟩ := cells3 BK104; obtain ⟨hcz24_0, hcz24_1, hcz24_2, hfz24_0, hfz24_1, hfz24_2⟩ := cells3 BK105)); try go_wp2_with (first | (go_at_call 47; (with_reducible refine (impl_IsCover.calls k a0_0 a0_1 a0_2 true _ A6.out).mono ?_); rintro e w20 ⟨rfl, hb⟩; replace BK104 := Aside0.mk (bbz BK104 hb); replace BK105 := Aside0.mk (bbz BK105 hb); replace HB := Aside0.mk (below_step bzs hb); (try clear hb); obtain ⟨hcz21_0, hcz21_1, hcz21_2, hfz21_0, hfz21_1, hfz21_2⟩ := cells3 BK105) | (go_at_call 47; (with_reducible refine (impl_IsCover.calls k a1_0 a1_1 a1_2 true _ A8.out).mono ?_); rintro e w22 ⟨rfl, hb⟩; replace BK104 := Aside0.mk (bbz BK104 hb); replace BK105 := Aside0.mk (bbz BK105 hb); replace HB := Aside0.mk (below_step bzs hb); (try clear hb); obtain ⟨hcz23_0, hcz23_1, hcz23_2, hfz23_0, hfz23_1, hfz23_2⟩ := cells3 BK104; obtain ⟨hcz24_0, hcz24_1, hcz24_2, hfz24_0, hfz24_1, hfz24_2⟩ := cells3 BK105)))
     go_meet
     case rel => exact ⟨_, (true), rz, H', ⟨qz⟩, ⟨kz BK104⟩, ⟨kz BK105⟩, ⟨bzs⟩⟩
   ·replace c9 := Bool.eq_false_iff.mpr c9; subst c9; replace H := iff_ H; have H' := Aside0.mk H; clear H; have hnb25 := NB104_105.out; have hnc25 := NB105_104.out; obtain ⟨hcz26_0, hcz26_1, hcz26_2, hfz26_0, hfz26_1, hfz26_2⟩ := cells3 BK104; go_wp2_with (first | (go_at_call 47; (with_reducible refine (impl_IsCover.calls k a0_0 a0_1 a0_2 true _ A6.out).mono ?_); rintro e w27 ⟨rfl, hb⟩; replace BK104 := Aside0.mk (bbz BK104 hb); replace BK105 := Aside0.mk (bbz BK105 hb); replace HB := Aside0.mk (below_step bzs hb); (try clear hb); obtain ⟨hcz28_0, hcz28_1, hcz28_2, hfz28_0, hfz28_1, hfz28_2⟩ := cells3 BK105) | (go_at_call 47; (with_reducible refine (impl_IsCover.calls k a1_0 a1_1 a1_2 false _ A8.out).mono ?_); rintro e w29 ⟨rfl, hb⟩; replace BK104 := Aside0.mk (bbz BK104 hb); replace BK105 := Aside0.mk (bbz BK105 hb); replace HB := Aside0.mk (below_step bzs hb); (try clear hb)))
    repeat (go_quiet (first | (go_at_call 47; (with_reducible refine (impl_IsCover.calls k a0_0 a0_1 a0_2 true _ A6.out).mono ?_); rintro e w27 ⟨rfl, hb⟩; replace BK104 := Aside0.mk (bbz BK104 hb); replace BK105 := Aside0.mk (bbz BK105 hb); replace HB := Aside0.mk (below_step bzs hb); (try clear hb); obtain ⟨hcz28_0, hcz28_1, hcz28_2, hfz28_0, hfz28_1, hfz28_2⟩ := cells3 BK105) | (go_at_call 47; (with_reducible refine (impl_IsCover.calls k a1_0 a1_1 a1_2 false _ A8.out).mono ?_); rintro e w29 ⟨rfl, hb⟩; replace BK104 := Aside0.mk (bbz BK104 hb); replace BK105 := Aside0.mk (bbz BK105 hb); replace HB := Aside0.mk (below_step bzs hb); (try clear hb))); try go_wp2_with (first | (go_at_call 47; (with_reducible refine (impl_IsCover.calls k a0_0 a0_1 a0_2 true _ A6.out).mono ?_); rintro e w27 ⟨rfl, hb⟩; replace BK104 := Aside0.mk (bbz BK104 hb); replace BK105 := Aside0.mk (bbz BK105 hb); replace HB := Aside0.mk (below_step bzs hb); (try clear hb); obtain ⟨hcz28_0, hcz28_1, hcz28_2, hfz28_0, hfz28_1, hfz28_2⟩ := cells3 BK105) | (go_at_call 47; (with_reducible refine (impl_IsCover.calls k a1_0 a1_1 a1_2 false _ A8.out).mono ?_); rintro e w29 ⟨rfl, hb⟩; replace BK104 := Aside0.mk (bbz BK104 hb); replace BK105 := Aside0.mk (bbz BK105 hb); replace HB := Aside0.mk (below_step bzs hb); (try clear hb))))
    go_meet
    case rel => exact ⟨_, (true), rz, H', ⟨qz⟩, ⟨kz BK104⟩, ⟨kz BK105⟩, ⟨bzs⟩⟩
  ·replace c7 := Bool.eq_false_iff.mpr c7; subst c7; replace H := iff_ H; have H' := Aside0.mk H; clear H; have hnb30 := NB104_105.out; have hnc30 := NB105_104.out; obtain ⟨hcz31_0, hcz31_1, hcz31_2, hfz31_0, hfz31_1, hfz31_2⟩ := cells3 BK104; go_wp2_with (first | (go_at_call 47; (with_reducible refine (impl_IsCover.calls k a0_0 a0_1 a0_2 false _ A6.out).mono ?_); rintro e w32 ⟨rfl, hb⟩; replace BK104 := Aside0.mk (bbz BK104 hb); replace BK105 := Aside0.mk (bbz BK105 hb); replace HB := Aside0.mk (below_step bzs hb); (try clear hb)))
   repeat (go_quiet (first | (go_at_call 47; (with_reducible refine (impl_IsCover.calls k a0_0 a0_1 a0_2 false _ A6.out).mono ?_); rintro e w32 ⟨rfl, hb⟩; replace BK104 := Aside0.mk (bbz BK104 hb); replace BK105 := Aside0.mk (bbz BK105 hb); replace HB := Aside0.mk (below_step bzs hb); (try clear hb))); try go_wp2_with (first | (go_at_call 47; (with_reducible refine (impl_IsCover.calls k a0_0 a0_1 a0_2 false _ A6.out).mono ?_); rintro e w32 ⟨rfl, hb⟩; replace BK104 := Aside0.mk (bbz BK104 hb); replace BK105 := Aside0.mk (bbz BK105 hb); replace HB := Aside0.mk (below_step bzs hb); (try clear hb))))
   go_meet
   case rel => exact ⟨_, (true), rz, H', ⟨qz⟩, ⟨kz BK104⟩, ⟨kz BK105⟩, ⟨bzs⟩⟩
 case rest =>
  clear HC3; (try clear c1); (try clear c2); (try clear p2); (try clear c3); (try clear c7); (try clear c9); (try clear c10); (try clear c10b0); (try clear c10b1); (try clear c11); (try clear c18); (try clear c22); (try clear c25); (try clear c30); (try clear hcz12_0); (try clear hcz12_1); (try clear hcz12_2); (try clear hcz14_0); (try clear hcz14_1); (try clear hcz14_2); (try clear hcz16_0); (try clear hcz16_1); (try clear hcz16_2); (try clear hcz17_0); (try clear hcz17_1); (try clear hcz17_2); (try clear hcz19_0); (try clear hcz19_1); (try clear hcz19_2); (try clear hcz21_0); (try clear hcz21_1); (try clear hcz21_2); (try clear hcz23_0); (try clear hcz23_1); (try clear hcz23_2); (try clear hcz24_0); (try clear hcz24_1); (try clear hcz24_2); (try clear hcz26_0); (try clear hcz26_1); (try clear hcz26_2); (try clear hcz28_0); (try clear hcz28_1); (try clear hcz28_2); (try clear hcz31_0); (try clear hcz31_1); (try clear hcz31_2); (try clear hfz12_0); (try clear hfz12_1); (try clear hfz12_2); (try clear hfz14_0); (try clear hfz14_1); (try clear hfz14_2); (try clear hfz16_0); (try clear hfz16_1); (try clear hfz16_2); (try clear hfz17_0); (try clear hfz17_1); (try clear hfz17_2); (try clear hfz19_0); (try clear hfz19_1); (try clear hfz19_2); (try clear hfz21_0); (try clear hfz21_1); (try clear hfz21_2); (try clear hfz23_0); (try clear hfz23_1); (try clear hfz23_2); (try clear hfz24_0); (try clear hfz24_1); (try clear hfz24_2); (try clear hfz26_0); (try clear hfz26_1); (try clear hfz26_2)
  (try clear hfz28_0); (try clear hfz28_1); (try clear hfz28_2); (try clear hfz31_0); (try clear hfz31_1); (try clear hfz31_2); obtain ⟨kq, x28_2, rfl, HA, HJ2, BK104, BK105, HB⟩ := hcut
  cases kq with
  | zero => exact absurd HA.out (by simp [impl_SameLabels.j0])
  | succ kj2 =>
   have H := HA.out; clear HA; simp only [impl_SameLabels.j0] at H
   by_cases c33 : x28_2 = true
   ·subst c33; replace H := ift H; obtain rfl := Option.some.inj H; go_wp2
    repeat (go_quiet (fail); try go_wp2)
    go_ret
    exact ⟨ez, bzs⟩
   ·replace c33 := Bool.eq_false_iff.mpr c33; subst c33; replace H := iff_ H; have H' := Aside0.mk H; clear H; have hnb34 := NB104_105.out; have hnc34 := NB105_104.out; obtain ⟨hcz35_0, hcz35_1, hcz35_2, hfz35_0, hfz35_1, hfz35_2⟩ := cells3 BK104; go_wp2
    repeat (go_quiet (fail); try go_wp2)
    (try simp only [Act.put, List.setIfInBounds_toArray, List.set_cons_zero, List.set_cons_succ])
    go_loopg [5, 32] kj2 (fun kq v5 v32 w' => ∃ (x5_2 : Int) (x32_2 : Int), v5 = .int .i64 x5_2 ∧ v32 = .int .i64 x32_2 ∧ Aside0 (impl_SameLabels.l0 kq x5_2 (a0_2.size : Int) x32_2 a0_0 a0_1 a0_2 a1_0 a1_1 a1_2 = some r) ∧ Aside0 (kq ≤ kj2) ∧ Aside0 (w'.heap[gb104]? = some (.cells #[.int .i64 a0_0, .int .i64 a0_1, .string a0_2] 26 (0, 0))) ∧ Aside0 (w'.heap[gb105]? = some (.cells #[.int .i64 a1_0, .int .i64 a1_1, .string a1_2] 26 (0, 0))) ∧ Aside0 (Below w.heap.size w w'))
    case atStart => exact ⟨(0), (0), rz, rz, H', ⟨Nat.le_refl _⟩, ⟨kz BK104⟩, ⟨kz BK105⟩, ⟨bzs⟩⟩
    case round =>
     clear H'; (try clear c1); (try clear c2); (try clear p2); (try clear c3); (try clear c7); (try clear c9); (try clear c10); (try clear c10b0); (try clear c10b1); (try clear c11); (try clear c18); (try clear c22); (try clear c25); (try clear c30); (try clear c33); (try clear c34); (try clear hcz12_0); (try clear hcz12_1); (try clear hcz12_2); (try clear hcz14_0); (try clear hcz14_1); (try clear hcz14_2); (try clear hcz16_0); (try clear hcz16_1); (try clear hcz16_2); (try clear hcz17_0); (try clear hcz17_1); (try clear hcz17_2); (try clear hcz19_0); (try clear hcz19_1); (try clear hcz19_2); (try clear hcz21_0); (try clear hcz21_1); (try clear hcz21_2); (try clear hcz23_0); (try clear hcz23_1); (try clear hcz23_2); (try clear hcz24_0); (try clear hcz24_1); (try clear hcz24_2); (try clear hcz26_0); (try clear hcz26_1); (try clear hcz26_2); (try clear hcz28_0); (try clear hcz28_1); (try clear hcz28_2); (try clear hcz31_0); (try clear hcz31_1); (try clear hcz31_2); (try clear hcz35_0); (try clear hcz35_1); (try clear hcz35_2); (try clear hfz12_0); (try clear hfz12_1); (try clear hfz12_2); (try clear hfz14_0); (try clear hfz14_1); (try clear hfz14_2); (try clear hfz16_0); (try clear hfz16_1); (try clear hfz16_2); (try clear hfz17_0); (try clear hfz17_1); (try clear hfz17_2); (try clear hfz19_0); (try clear hfz19_1); (try clear hfz19_2); (try clear hfz21_0); (try clear hfz21_1); (try clear hfz21_2); (try clear hfz23_0); (try clear hfz23_1); (try clear hfz23_2); (try clear hfz24_0)
     (try clear hfz24_1); (try clear hfz24_2); (try clear hfz26_0); (try clear hfz26_1); (try clear hfz26_2); (try clear hfz28_0); (try clear hfz28_1); (try clear hfz28_2); (try clear hfz31_0); (try clear hfz31_1); (try clear hfz31_2); (try clear hfz35_0); (try clear hfz35_1); (try clear hfz35_2); (try clear p2); obtain ⟨x5_2, x32_2, rfl, rfl, HA, HK2, BK104, BK105, HB⟩ := hrel
     cases gk with
     | zero => exact absurd HA.out (by simp [impl_SameLabels.l0])
     | succ k2 =>
      have H := HA.out; clear HA; simp only [impl_SameLabels.l0] at H
      by_cases c36 : x32_2 < (a0_2.size : Int)
      ·rw [if_pos c36] at H; have c36b0 := decide_eq_true c36; clear c36
       by_cases c37 : 0 ≤ x32_2
       ·rw [if_pos c37] at H; have c37b0 := decide_eq_true c37; clear c37
        by_cases c38 : x32_2 < (a0_2.size : Int)
        ·rw [if_pos c38] at H; have c38b0 := decide_eq_true c38; clear c38
         by_cases c40 : x32_2 < (a1_2.size : Int)
         ·rw [if_pos c40] at H; have c40b0 := decide_eq_true c40; clear c40
          by_cases c42 : (bt a0_2 x32_2) = (bt a1_2 x32_2)
          ·rw [if_pos c42] at H; have c42b0 : ((bt a0_2 x32_2) == (bt a1_2 x32_2)) = true := beq_iff_eq.mpr c42; have c42b1 : ((bt a0_2 x32_2) != (bt a1_2 x32_2)) = false := bne_eq_false_iff_eq.mpr c42; clear c42; have H' := Aside0.mk H; clear H; have hnb43 := NB104_105.out; have hnc43 := NB105_104.out; obtain ⟨hcz44_0, hcz44_1, hcz44_2, hfz44_0, hfz44_1, hfz44_2⟩ := cells3 BK104; have p39 : 0 ≤ (x32_2 : Int) := of_decide_eq_true az; have q39 : x32_2 < (a0_2.size : Int) := of_decide_eq_true az; have hx39 := bt_at a0_2 x32_2; replace p39 := eq_true p39; replace q39 := eq_true q39; obtain ⟨hcz45_0, hcz45_1, hcz45_2, hfz45_0, hfz45_1, hfz45_2⟩ := cells3 BK105; have p41 : 0 ≤ (x32_2 : Int) := of_decide_eq_true az; have q41 : x32_2 < (a1_2.size : Int) := of_decide_eq_true az; have hx41 := bt_at a1_2 x32_2; replace p41 := eq_true p41; replace q41 := eq_true q41; go_wp2
           repeat (go_quiet (fail); try go_wp2)
           go_roundg k2
           case measure => have := HJ2.out; have := HK2.out; omega
           case rel => exact ⟨(wrap64 (x5_2 + 1)), (wrap64 (x32_2 + 1)), rz, rz, H', ⟨by have := HJ2.out; have := HK2.out; omega⟩, ⟨kz BK104⟩, ⟨kz BK105⟩, ⟨bzs⟩⟩
          ·rw [if_neg c42] at H; have c42b0 : ((bt a0_2 x32_2) == (bt a1_2 x32_2)) = false := beq_eq_false_iff_ne.mpr c42; have c42b1 : ((bt a0_2 x32_2) != (bt a1_2 x32_2)) = true := bne_iff_ne.mpr c42; have H' := Aside0.mk H; clear H; have hnb46 := NB104_105.out; have hnc46 := NB105_104.out; obtain ⟨hcz47_0, hcz47_1, hcz47_2, hfz47_0, hfz47_1, hfz47_2⟩ := cells3 BK104; have p39 : 0 ≤ (x32_2 : Int) := of_decide_eq_true az; have q39 : x32_2 < (a0_2.size : Int) := of_decide_eq_true az; have hx39 := bt_at a0_2 x32_2; replace p39 := eq_true p39; replace q39 := eq_true q39; obtain ⟨hcz48_0, hcz48_1, hcz48_2, hfz48_0, hfz48_1, hfz48_2⟩ := cells3 BK105; have p41 : 0 ≤ (x32_2 : Int) := of_decide_eq_true az; have q41 : x32_2 < (a1_2.size : Int) := of_decide_eq_true az; have hx41 := bt_at a1_2 x32_2; replace p41 := eq_true p41; replace q41 := eq_true q41; go_wp2
           repeat (go_quiet (fail); try go_wp2)
           go_roundg k2
           case measure => have := HJ2.out; have := HK2.out; omega
           case rel => exact ⟨(x5_2), (wrap64 (x32_2 + 1)), rz, rz, H', ⟨by have := HJ2.out; have := HK2.out; omega⟩, ⟨kz BK104⟩, ⟨kz BK105⟩, ⟨bzs⟩⟩
         ·rw [if_neg c40] at H
          exact absurd H (by simp)
        ·rw [if_neg c38] at H
         exact absurd H (by simp)
       ·rw [if_neg c37] at H
        exact absurd H (by simp)
      ·rw [if_neg c36] at H; have c36b0 := decide_eq_false c36; clear c36; obtain rfl := Option.some.inj H; go_wp2
       repeat (go_quiet (fail); try go_wp2)
       go_ret
       exact ⟨ez, bzs⟩

end Go.Proofs.Ythodhcalknelcaa.PFnMerged
