-- Written by a program of this session's: the kit's print, turned (turnprint.py): functions, and that Go comes to just their answers.
import Derived.Test.YthodhcalknelcaaZ
import Derived.Test.YthodhcalknelcaaPFnCoversx0
import Derived.Test.YthodhcalknelcaaPFnCoversx1
import Derived.Test.YthodhcalknelcaaPFnCoversx2
import Derived.Test.YthodhcalknelcaaPFnCoversx3
import Derived.Test.YthodhcalknelcaaPFnCoversx4
import Derived.Test.YthodhcalknelcaaPFnCoversx5
namespace Go.Proofs.Ythodhcalknelcaa.PFnCovers
open Go.RowKit Go.Proofs.YthodhcalknelcaaW.PrintWords Go.Proofs.YthodhcalknelcaaW.PrintLast Go.Proofs.YthodhcalknelcaaW.PrintMore Go.Proofs.YthodhcalknelcaaGeo Go.Proofs.YthodhcalknelcaaHand Go.Proofs.YthodhcalknelcaaZ
attribute [local go_sem] max2_int min2_int max_two min_two max_three min_three max_four min_four   -- for this text's walks alone
set_option linter.unusedVariables false
set_option linter.unusedSimpArgs false

/-! ### spec_RegionsOf: function 28 -/
def spec_RegionsOf.l0 : Nat → List Int → List Int → Int → Option (List Int)
 | 0, _, _, _ => none
 | k + 1, x3, x4, x5 => if x5 < (x4.length : Int) then (if 0 ≤ x5 then ((spec_l14Put.f k x3 (rd x4 x5)).bind fun t225 => (spec_RegionsOf.l0 k t225 x4 (wrap64 (x5 + 1)))) else (none)) else (some x3)
def spec_RegionsOf.f (k : Nat) (a0_0 : Int) (a0_1 : Int) (a0_2 : ByteArray) : Option (List Int) := (some (([] : List Int) : List Int)).bind fun y217 => ((spec_IsCover.f k a0_0 a0_1 a0_2).bind fun t220 => (if t220 = true then ((spec_l15Numbers.f k a0_0 a0_1 a0_2).bind fun t221 => (spec_RegionsOf.l0 k y217 t221 0)) else (some y217)))
theorem spec_RegionsOf.mono_l : ∀ k, (∀ y0 y1 y2, LeO (spec_RegionsOf.l0 k y0 y1 y2) (spec_RegionsOf.l0 (k + 1) y0 y1 y2))
 | 0 => fun _ _ _ r h => by simp [spec_RegionsOf.l0] at h
 | k + 1 => by
  have ih0 := spec_RegionsOf.mono_l k
  ·intro y0 y1 y2
   unfold spec_RegionsOf.l0
   repeat' first | (with_reducible first | exact ih0 _ _ _ | exact spec_IsCover.mono _ _ _ _ | exact spec_l14Put.mono _ _ _ | exact spec_l15Numbers.mono _ _ _ _ | exact LeO.refl _ | exact LeO.none _ | refine LeO.ite ?_ ?_ | refine LeO.bind ?_ (fun _ => ?_)) | exact ih0 _ _ _ | exact spec_IsCover.mono _ _ _ _ | exact spec_l14Put.mono _ _ _ | exact spec_l15Numbers.mono _ _ _ _ | exact LeO.none _ | refine LeO.ite ?_ ?_ | refine LeO.bind ?_ (fun _ => ?_)
theorem spec_RegionsOf.mono : ∀ a0 a1 a2 k, LeO (spec_RegionsOf.f k a0 a1 a2) (spec_RegionsOf.f (k + 1) a0 a1 a2) := by
 intro a0 a1 a2 k; have ih0 := spec_RegionsOf.mono_l k
 unfold spec_RegionsOf.f
 repeat' first | (with_reducible first | exact ih0 _ _ _ | exact spec_IsCover.mono _ _ _ _ | exact spec_l14Put.mono _ _ _ | exact spec_l15Numbers.mono _ _ _ _ | exact LeO.refl _ | exact LeO.none _ | refine LeO.ite ?_ ?_ | refine LeO.bind ?_ (fun _ => ?_)) | exact ih0 _ _ _ | exact spec_IsCover.mono _ _ _ _ | exact spec_l14Put.mono _ _ _ | exact spec_l15Numbers.mono _ _ _ _ | exact LeO.none _ | refine LeO.ite ?_ ?_ | refine LeO.bind ?_ (fun _ => ?_)
set_option maxHeartbeats 8000000 in
set_option maxRecDepth 100000 in
theorem spec_RegionsOf.calls (k : Nat) (a0_0 : Int) (a0_1 : Int) (a0_2 : ByteArray) (r : List Int) (w : World) (h : spec_RegionsOf.f k a0_0 a0_1 a0_2 = some r) :
  Calls Try.prog 28 #[.agg #[.int .i64 a0_0, .int .i64 a0_1, .string a0_2]] w fun e w' => ∃ v0_ : Value, e = .returned (v0_) ∧ Kd.R (Kd.int .i64) 3 w' w.heap.size (fun _ => True) v0_ r ∧ Below w.heap.size w w' := by
 have hu26 := Try.underlying26; have HB := Aside0.mk (Below.refl w.heap.size w); have H : ((some (([] : List Int) : List Int)).bind fun y217 => ((spec_IsCover.f k a0_0 a0_1 a0_2).bind fun t220 => (if t220 = true then ((spec_l15Numbers.f k a0_0 a0_1 a0_2).bind fun t221 => (spec_RegionsOf.l0 k y217 t221 0)) else (some y217)))) = some r := h; clear h; obtain ⟨y217, hy217⟩ : ∃ y_ : List Int, y_ = (([] : List Int)) := ⟨_, rfl⟩
 replace H : ((spec_IsCover.f k a0_0 a0_1 a0_2).bind fun t220 => (if t220 = true then ((spec_l15Numbers.f k a0_0 a0_1 a0_2).bind fun t221 => (spec_RegionsOf.l0 k y217 t221 0)) else (some y217))) = some r := by first | (rw [hy217]; with_reducible exact H) | (have H2_ := (Option.bind_some _ _).symm.trans H; rw [hy217]; with_reducible exact H2_) | (have H2_ := (Option.bind_some _ _).symm.trans H; with_reducible exact H2_) | with_reducible exact H | (rw [hy217]; exact H) | exact H
 have Ny217 := Aside0.mk hy217; clear hy217; replace H := Option.bind_eq_some_iff.mp H; obtain ⟨t220, A20, H⟩ := H; have A2 := Aside0.mk A20; clear A20
 by_cases c3 : t220 = true
 ·subst c3; replace H := ift H; replace H := Option.bind_eq_some_iff.mp H; obtain ⟨t221, A40, H⟩ := H; have A4 := Aside0.mk A40; clear A40; have H' := Aside0.mk H; clear H
  go_enter Try.func28, Try.ntmps28; go_wp2_with (first | ((with_reducible refine gt (some 1) rfl ?_); refine bx #[.int .i64 a0_0, .int .i64 a0_1, .string a0_2] 26 ?_; intro gb216 hg w5 hbox hb; have BK216 := Aside0.mk (hbox); have GW216 := Aside0.mk (gez HB hg); have GE216 := Aside0.mk (gez HB hg); replace HB := Aside0.mk (below_step bz hb); clear hb hbox hg) | ((with_reducible refine gate_dst (N := 6) rfl ?_); refine Kd.R_lit (Kd.int .i64) _ 3 ?hg (N := 6) ?hd (xs := ([] : List Int)) (inner := []) (ok := fun _ => True) (okp := fun _ => True) ?hr ?hp (fun _ hk => hk) trivial (Below.refl _ _) (Nat.le_refl _) (by simp) ?_; (case hd => rfl); (case hg => rfl); (case hr => first | (go_simp; done) | (go_simp; rfl)); (case hp => exact (Reps.none _ _)); intro v218 w6 ho7 hb hg_ hnew_; clear hg_ hnew_; (first | rw [← Ny217.out] at ho7 | (simp only [Int.reduceToNat] at ho7; rw [← Ny217.out] at ho7)); have HO219 := Aside0.mk (Kd.R_lower ho7 (below_size bzs)); replace BK216 := Aside0.mk (bbz BK216 hb); replace HB := Aside0.mk (below_step bzs hb); clear hb ho7; obtain ⟨hcz8_0, hcz8_1, hcz8_2, hfz8_0, hfz8_1, hfz8_2⟩ := cells3 BK216) | ((with_reducible refine gt (some 8) rfl ?_); refine gc Try.func64 (spec_IsCover.calls k a0_0 a0_1 a0_2 true _ A2.out) ?_; rintro e w9 ⟨rfl, hb⟩; refine ⟨_, rfl, ?_⟩; replace HO219 := Aside0.mk (rbz HO219 hb); replace BK216 := Aside0.mk (bbz BK216 hb); replace HB := Aside0.mk (below_step bzs hb); (try clear hb); obtain ⟨hcz10_0, hcz10_1, hcz10_2, hfz10_0, hfz10_1, hfz10_2⟩ := cells3 BK216) | ((with_reducible refine gt (some 12) rfl ?_); refine gc Try.func65 (spec_l15Numbers.calls k a0_0 a0_1 a0_2 t221 _ A4.out) ?_; rintro e w11 ⟨v222, rfl, ho0, hb⟩; refine ⟨_, rfl, ?_⟩; have HO223 := Aside0.mk (Kd.R_lower (Kd.R_new' ho0 (Kd.R_lt (hr HO219.out))) (below_size bzs)); replace HO219 := Aside0.mk (Kd.R_elder' (hr HO219.out) (Kd.R_base ho0) hb); replace BK216 := Aside0.mk (bbz BK216 hb); replace HB := Aside0.mk (below_step bzs hb); (try clear hb); (try clear ho0)))
  (try simp only [Act.put, List.setIfInBounds_toArray, List.set_cons_zero, List.set_cons_succ])
  go_loopg [3, 5] k (fun kq v3 v5 w' => ∃ (x3_1 : List Int) (x5_1 : Int), v5 = .int .i64 x5_1 ∧ Aside0 (spec_RegionsOf.l0 kq x3_1 t221 x5_1 = some r) ∧ Aside0 (kq ≤ k) ∧ Aside0 (Kd.R (Kd.int .i64) 3 w' w.heap.size (fun k_ => some k_ ≠ (v222 : Value).ownBlock) v3 x3_1) ∧ Aside0 (Kd.R (Kd.int .i64) 3 w' w.heap.size (fun k_ => some k_ ≠ (v3 : Value).ownBlock) v222 t221) ∧ Aside0 (w'.heap[gb216]? = some (.cells #[.int .i64 a0_0, .int .i64 a0_1, .string a0_2] 26 (0, 0))) ∧ Aside0 (Below w.heap.size w w'))
  case atStart => exact ⟨(y217), (0), rz, H', ⟨Nat.le_refl _⟩, ⟨hr (Kd.R_mono HO219.out (fun _ hk => hk.2))⟩, ⟨hr (Kd.R_mono HO223.out (fun _ hk => hk.2))⟩, ⟨kz BK216⟩, ⟨bzs⟩⟩
  case round =>
   clear H'; (try clear c2); (try clear p2); (try clear c3); (try clear c6); (try clear hcz10_0); (try clear hcz10_1); (try clear hcz10_2); (try clear hcz8_0); (try clear hcz8_1); (try clear hcz8_2); (try clear hfz10_0); (try clear hfz10_1); (try clear hfz10_2); (try clear hfz8_0); (try clear hfz8_1); (try clear hfz8_2); obtain ⟨x3_1, x5_1, rfl, HA, HK1, HO_3, HO_4, BK216, HB⟩ := hrel
   cases gk with
   | zero => exact absurd HA.out (by simp [spec_RegionsOf.l0])
   | succ k1 =>
    have H := HA.out; clear HA; simp only [spec_RegionsOf.l0] at H
    by_cases c12 : x5_1 < (t221.length : Int)
    ·rw [if_pos c12] at H; have c12b0 := decide_eq_true c12; clear c12
     by_cases c13 : 0 ≤ x5_1
     ·rw [if_pos c13] at H; have c13b0 := decide_eq_true c13; clear c13; replace H := Option.bind_eq_some_iff.mp H; obtain ⟨t225, A140, H⟩ := H; have A14 := Aside0.mk A140; clear A140; have H' := Aside0.mk H; clear H; obtain ⟨Ao15, co15, eo15⟩ := Kd.R_slice HO_4.out; subst eo15; have p224 : 0 ≤ (x5_1 : Int) := of_decide_eq_true az; have q224 : x5_1 < (t221.length : Int) := of_decide_eq_true az; obtain ⟨ad224, e224, hx224_0⟩ := Kd.at_int (Kd.R_reads' HO_4.out).2.2 x5_1 p224 q224
      cases e224
      replace p224 := eq_true p224; replace q224 := eq_true q224; obtain ⟨Ao16, co16, eo16⟩ := Kd.R_slice HO_3.out; subst eo16; go_wp2_with (first | ((with_reducible refine gt (some 24) rfl ?_); refine gc Try.func67 (spec_l14Put.calls k1 _ _ x3_1 (rd t221 x5_1) t225 _ (cz (Kd.R_reads' HO_3.out).2.2) ((Kd.R_reads' HO_3.out).2.1) A14.out) ?_; rintro e w17 ⟨v226, rfl, ho0, hb⟩; refine ⟨_, rfl, ?_⟩; have HO227 := Aside0.mk (Kd.R_lower (Kd.R_new' (Kd.R_new' ho0 (Kd.R_lt (hr HO_3.out))) (Kd.R_lt (hr HO_4.out))) (below_size bzs)); replace HO_3 := Aside0.mk (Kd.R_elder' (hr HO_3.out) (Kd.R_base ho0) hb); replace HO_4 := Aside0.mk (Kd.R_elder' (hr HO_4.out) (Kd.R_base ho0) hb); replace BK216 := Aside0.mk (bbz BK216 hb); replace HB := Aside0.mk (below_step bzs hb); (try clear hb); (try clear ho0)))
      go_roundg k1
      case measure => have := HK1.out; omega
      case rel => exact ⟨(t225), (wrap64 (x5_1 + 1)), rz, H', ⟨by have := HK1.out; omega⟩, ⟨hr (Kd.R_mono HO227.out (fun _ hk => hk.2))⟩, ⟨hr (Kd.R_mono HO_4.out (fun _ hk => hk.2))⟩, ⟨kz BK216⟩, ⟨bzs⟩⟩
     ·rw [if_neg c13] at H
      exact absurd H (by simp)
    ·rw [if_neg c12] at H; have c12b0 := decide_eq_false c12; clear c12; obtain rfl := Option.some.inj H; obtain ⟨Ao18, co18, eo18⟩ := Kd.R_slice HO_4.out; subst eo18; go_wp2; go_ret
     exact ⟨_, ez, hr (Kd.R_mono HO_3.out (fun _ hk => trivial)), bzs⟩
 ·replace c3 := Bool.eq_false_iff.mpr c3; subst c3; replace H := iff_ H; obtain rfl := Option.some.inj H
  go_enter Try.func28, Try.ntmps28; go_wp2_with (first | ((with_reducible refine gt (some 1) rfl ?_); refine bx #[.int .i64 a0_0, .int .i64 a0_1, .string a0_2] 26 ?_; intro gb216 hg w19 hbox hb; have BK216 := Aside0.mk (hbox); have GW216 := Aside0.mk (gez HB hg); have GE216 := Aside0.mk (gez HB hg); replace HB := Aside0.mk (below_step bz hb); clear hb hbox hg) | ((with_reducible refine gate_dst (N := 6) rfl ?_); refine Kd.R_lit (Kd.int .i64) _ 3 ?hg (N := 6) ?hd (xs := ([] : List Int)) (inner := []) (ok := fun _ => True) (okp := fun _ => True) ?hr ?hp (fun _ hk => hk) trivial (Below.refl _ _) (Nat.le_refl _) (by simp) ?_; (case hd => rfl); (case hg => rfl); (case hr => first | (go_simp; done) | (go_simp; rfl)); (case hp => exact (Reps.none _ _)); intro v218 w20 ho21 hb hg_ hnew_; clear hg_ hnew_; (first | rw [← Ny217.out] at ho21 | (simp only [Int.reduceToNat] at ho21; rw [← Ny217.out] at ho21)); have HO219 := Aside0.mk (Kd.R_lower ho21 (below_size bzs)); replace BK216 := Aside0.mk (bbz BK216 hb); replace HB := Aside0.mk (below_step bzs hb); clear hb ho21; obtain ⟨hcz22_0, hcz22_1, hcz22_2, hfz22_0, hfz22_1, hfz22_2⟩ := cells3 BK216) | ((with_reducible refine gt (some 8) rfl ?_); refine gc Try.func64 (spec_IsCover.calls k a0_0 a0_1 a0_2 false _ A2.out) ?_; rintro e w23 ⟨rfl, hb⟩; refine ⟨_, rfl, ?_⟩; replace HO219 := Aside0.mk (rbz HO219 hb); replace BK216 := Aside0.mk (bbz BK216 hb); replace HB := Aside0.mk (below_step bzs hb); (try clear hb))); go_ret
  exact ⟨_, ez, hr HO219.out, bzs⟩

/-! ### impl_RegionsOf: function 29 -/
def impl_RegionsOf.l0 : Nat → List Int → List Int → Int → Int → Option (List Int)
 | 0, _, _, _, _ => none
 | k + 1, x3, x8, x9, x10 => if x10 < x9 then (if 0 ≤ x10 then (if x10 < (x8.length : Int) then (if (rd x8 x10) = x10 then (if x3.length < 17592186044416 then (impl_RegionsOf.l0 k (x3 ++ [rd x8 x10]) x8 x9 (wrap64 (x10 + 1))) else (none)) else (impl_RegionsOf.l0 k x3 x8 x9 (wrap64 (x10 + 1)))) else (none)) else (none)) else (some x3)
def impl_RegionsOf.f (k : Nat) (a0_0 : Int) (a0_1 : Int) (a0_2 : ByteArray) : Option (List Int) := (impl_regions.f k a0_0 a0_1 a0_2).bind fun t232 => (impl_RegionsOf.l0 k (([] : List Int)) t232 (t232.length : Int) 0)
theorem impl_RegionsOf.mono_l : ∀ k, (∀ y0 y1 y2 y3, LeO (impl_RegionsOf.l0 k y0 y1 y2 y3) (impl_RegionsOf.l0 (k + 1) y0 y1 y2 y3))
 | 0 => fun _ _ _ _ r h => by simp [impl_RegionsOf.l0] at h
 | k + 1 => by
  have ih0 := impl_RegionsOf.mono_l k
  ·intro y0 y1 y2 y3
   unfold impl_RegionsOf.l0
   repeat' first | (with_reducible first | exact ih0 _ _ _ _ | exact impl_regions.mono _ _ _ _ | exact LeO.refl _ | exact LeO.none _ | refine LeO.ite ?_ ?_ | refine LeO.bind ?_ (fun _ => ?_)) | exact ih0 _ _ _ _ | exact impl_regions.mono _ _ _ _ | exact LeO.none _ | refine LeO.ite ?_ ?_ | refine LeO.bind ?_ (fun _ => ?_)
theorem impl_RegionsOf.mono : ∀ a0 a1 a2 k, LeO (impl_RegionsOf.f k a0 a1 a2) (impl_RegionsOf.f (k + 1) a0 a1 a2) := by
 intro a0 a1 a2 k; have ih0 := impl_RegionsOf.mono_l k
 unfold impl_RegionsOf.f
 repeat' first | (with_reducible first | exact ih0 _ _ _ _ | exact impl_regions.mono _ _ _ _ | exact LeO.refl _ | exact LeO.none _ | refine LeO.ite ?_ ?_ | refine LeO.bind ?_ (fun _ => ?_)) | exact ih0 _ _ _ _ | exact impl_regions.mono _ _ _ _ | exact LeO.none _ | refine LeO.ite ?_ ?_ | refine LeO.bind ?_ (fun _ => ?_)
set_option maxHeartbeats 8000000 in
set_option maxRecDepth 100000 in
theorem impl_RegionsOf.calls (k : Nat) (a0_0 : Int) (a0_1 : Int) (a0_2 : ByteArray) (r : List Int) (w : World) (h : impl_RegionsOf.f k a0_0 a0_1 a0_2 = some r) :
  Calls Try.prog 29 #[.agg #[.int .i64 a0_0, .int .i64 a0_1, .string a0_2]] w fun e w' => ∃ v0_ : Value, e = .returned (v0_) ∧ Kd.R (Kd.int .i64) 3 w' w.heap.size (fun _ => True) v0_ r ∧ Below w.heap.size w w' := by
 have hu26 := Try.underlying26; have HB := Aside0.mk (Below.refl w.heap.size w); have H : ((impl_regions.f k a0_0 a0_1 a0_2).bind fun t232 => (impl_RegionsOf.l0 k (([] : List Int)) t232 (t232.length : Int) 0)) = some r := h; clear h; obtain ⟨y229, hy229⟩ : ∃ y_ : List Int, y_ = (([] : List Int)) := ⟨_, rfl⟩
 replace H : ((impl_regions.f k a0_0 a0_1 a0_2).bind fun t232 => (impl_RegionsOf.l0 k y229 t232 (t232.length : Int) 0)) = some r := by first | (rw [hy229]; with_reducible exact H) | (have H2_ := (Option.bind_some _ _).symm.trans H; rw [hy229]; with_reducible exact H2_) | (have H2_ := (Option.bind_some _ _).symm.trans H; with_reducible exact H2_) | with_reducible exact H | (rw [hy229]; exact H) | exact H
 have Ny229 := Aside0.mk hy229; clear hy229; replace H := Option.bind_eq_some_iff.mp H; obtain ⟨t232, A20, H⟩ := H; have A2 := Aside0.mk A20; clear A20; have H' := Aside0.mk H; clear H
 go_enter Try.func29, Try.ntmps29; go_wp2_with (first | ((with_reducible refine gt (some 1) rfl ?_); refine bx #[.int .i64 a0_0, .int .i64 a0_1, .string a0_2] 26 ?_; intro gb228 hg w3 hbox hb; have BK228 := Aside0.mk (hbox); have GW228 := Aside0.mk (gez HB hg); have GE228 := Aside0.mk (gez HB hg); replace HB := Aside0.mk (below_step bz hb); clear hb hbox hg) | ((with_reducible refine gate_dst (N := 6) rfl ?_); refine Kd.R_lit (Kd.int .i64) _ 3 ?hg (N := 6) ?hd (xs := ([] : List Int)) (inner := []) (ok := fun _ => True) (okp := fun _ => True) ?hr ?hp (fun _ hk => hk) trivial (Below.refl _ _) (Nat.le_refl _) (by simp) ?_; (case hd => rfl); (case hg => rfl); (case hr => first | (go_simp; done) | (go_simp; rfl)); (case hp => exact (Reps.none _ _)); intro v230 w4 ho5 hb hg_ hnew_; clear hg_ hnew_; (first | rw [← Ny229.out] at ho5 | (simp only [Int.reduceToNat] at ho5; rw [← Ny229.out] at ho5)); have HO231 := Aside0.mk (Kd.R_lower ho5 (below_size bzs)); replace BK228 := Aside0.mk (bbz BK228 hb); replace HB := Aside0.mk (below_step bzs hb); clear hb ho5; obtain ⟨hcz6_0, hcz6_1, hcz6_2, hfz6_0, hfz6_1, hfz6_2⟩ := cells3 BK228) | ((with_reducible refine gt (some 8) rfl ?_); refine gc Try.func66 (impl_regions.calls k a0_0 a0_1 a0_2 t232 _ A2.out) ?_; rintro e w7 ⟨v233, rfl, ho0, hb⟩; refine ⟨_, rfl, ?_⟩; have HO234 := Aside0.mk (Kd.R_lower (Kd.R_new' ho0 (Kd.R_lt (hr HO231.out))) (below_size bzs)); replace HO231 := Aside0.mk (Kd.R_elder' (hr HO231.out) (Kd.R_base ho0) hb); replace BK228 := Aside0.mk (bbz BK228 hb); replace HB := Aside0.mk (below_step bzs hb); (try clear hb); (try clear ho0); obtain ⟨Ao8, co8, eo8⟩ := Kd.R_slice HO234.out; subst eo8))
 (try simp only [Act.put, List.setIfInBounds_toArray, List.set_cons_zero, List.set_cons_succ])
 go_loopg [3, 10] k (fun kq v3 v10 w' => ∃ (x3_1 : List Int) (x10_1 : Int), v10 = .int .i64 x10_1 ∧ Aside0 (impl_RegionsOf.l0 kq x3_1 t232 (t232.length : Int) x10_1 = some r) ∧ Aside0 (kq ≤ k) ∧ Aside0 (Kd.R (Kd.int .i64) 3 w' w.heap.size (fun k_ => some k_ ≠ ((.slice Ao8 t232.length co8) : Value).ownBlock) v3 x3_1) ∧ Aside0 (Kd.R (Kd.int .i64) 3 w' w.heap.size (fun k_ => some k_ ≠ (v3 : Value).ownBlock) (.slice Ao8 t232.length co8) t232) ∧ Aside0 (w'.heap[gb228]? = some (.cells #[.int .i64 a0_0, .int .i64 a0_1, .string a0_2] 26 (0, 0))) ∧ Aside0 (Below w.heap.size w w'))
 case atStart => exact ⟨(y229), (0), rz, H', ⟨Nat.le_refl _⟩, ⟨hr (Kd.R_mono HO231.out (fun _ hk => hk.2))⟩, ⟨hr (Kd.R_mono HO234.out (fun _ hk => hk.2))⟩, ⟨kz BK228⟩, ⟨bzs⟩⟩
 case round =>
  clear H'; (try clear c2); (try clear p2); (try clear c6); (try clear hcz6_0); (try clear hcz6_1); (try clear hcz6_2); (try clear hfz6_0); (try clear hfz6_1); (try clear hfz6_2); obtain ⟨x3_1, x10_1, rfl, HA, HK1, HO_3, HO_8, BK228, HB⟩ := hrel
  cases gk with
  | zero => exact absurd HA.out (by simp [impl_RegionsOf.l0])
  | succ k1 =>
   have H := HA.out; clear HA; simp only [impl_RegionsOf.l0] at H
   by_cases c9 : x10_1 < (t232.length : Int)
   ·rw [if_pos c9] at H; have c9b0 := decide_eq_true c9; clear c9
    by_cases c10 : 0 ≤ x10_1
    ·rw [if_pos c10] at H; have c10b0 := decide_eq_true c10; clear c10
     by_cases c11 : x10_1 < (t232.length : Int)
     ·rw [if_pos c11] at H; have c11b0 := decide_eq_true c11; clear c11
      by_cases c12 : (rd t232 x10_1) = x10_1
      ·rw [if_pos c12] at H; have c12b0 : ((rd t232 x10_1) == x10_1) = true := beq_iff_eq.mpr c12; have c12b1 : ((rd t232 x10_1) != x10_1) = false := bne_eq_false_iff_eq.mpr c12; clear c12
       by_cases c13 : x3_1.length < 17592186044416
       ·rw [if_pos c13] at H; have LMc13 := Aside0.mk c13; clear c13; obtain ⟨y236, hy236⟩ : ∃ y_ : List Int, y_ = (x3_1 ++ [rd t232 x10_1]) := ⟨_, rfl⟩
        replace H : (impl_RegionsOf.l0 k1 y236 t232 (t232.length : Int) (wrap64 (x10_1 + 1))) = some r := by first | (rw [hy236]; with_reducible exact H) | (have H2_ := (Option.bind_some _ _).symm.trans H; rw [hy236]; with_reducible exact H2_) | (have H2_ := (Option.bind_some _ _).symm.trans H; with_reducible exact H2_) | with_reducible exact H | (rw [hy236]; exact H) | exact H
        have Ny236 := Aside0.mk hy236; clear hy236; have H' := Aside0.mk H; clear H; have p235 : 0 ≤ (x10_1 : Int) := of_decide_eq_true az; have q235 : x10_1 < (t232.length : Int) := of_decide_eq_true az; obtain ⟨ad235, e235, hx235_0⟩ := Kd.at_int (Kd.R_reads' HO_8.out).2.2 x10_1 p235 q235
        cases e235
        replace p235 := eq_true p235; replace q235 := eq_true q235; go_wp2_with (first | ((with_reducible refine gate_builtin (b := .append) (xs := #[.tmp 18, .tmp 20]) rfl ?_); at_builtin; refine Kd.R_append (Kd.int .i64) (w0 := w) w.heap.size rfl (.tmp 18) (.tmp 20) 29 3 (.int .i64 0) 8 rfl Try.underlying29 info3 rfl (by decide) (by omega) u3 x3_1 (rd t232 x10_1) [.int .i64 (rd t232 x10_1)] (fun k_ => some k_ ≠ (.slice (some ad235) t232.length co8 : Value).ownBlock) (fun _ => False) rfl rfl ?aP (fun _ hk => hk.elim) ?aF ?aO ?aB ?aS ?aL ?_; (case aP => exact rfl); (case aB => exact bzs); (case aF => exact (fun k_ hk => Kd.fresh' (Kd.R_lt (hr HO_8.out)) k_ hk)); (case aO => exact (hr HO_3.out)); (case aS => exact (below_size bzs)); (case aL => have := LMc13.out; omega); intro v237 w14 ho hb hg hat; rw [← Ny236.out] at ho; have n0_ := Aside0.mk (Kd.R_after (ok := (fun _ => True)) (Kd.R_mono (hr HO_8.out) (fun _ hk => And.intro trivial hk)) hg hat); have n1_ := Aside0.mk (blk_grown (g := gb228) (o := .cells #[.int .i64 a0_0, .int .i64 a0_1, .string a0_2] 26 (0, 0)) (kz BK228) hg (Kd.R_ne HO_3.out BK228.out (by decide))); have n2_ := Aside0.mk (hb); have n3_ := Aside0.mk (ho); clear HO_8; clear BK228; clear HB; clear HO_3; have HO_8 := n0_; have BK228 := n1_; have HB := n2_; have HO238 := n3_; clear n0_ n1_ n2_ n3_; clear ho hb hg hat))
        go_roundg k1
        case measure => have := HK1.out; omega
        case rel => exact ⟨(y236), (wrap64 (x10_1 + 1)), rz, H', ⟨by have := HK1.out; omega⟩, ⟨hr HO238.out⟩, ⟨hr (Kd.R_mono HO_8.out (fun _ hk => hk.2))⟩, ⟨kz BK228⟩, ⟨bzs⟩⟩
       ·rw [if_neg c13] at H
        exact absurd H (by simp)
      ·rw [if_neg c12] at H; have c12b0 : ((rd t232 x10_1) == x10_1) = false := beq_eq_false_iff_ne.mpr c12; have c12b1 : ((rd t232 x10_1) != x10_1) = true := bne_iff_ne.mpr c12; have H' := Aside0.mk H; clear H; have p235 : 0 ≤ (x10_1 : Int) := of_decide_eq_true az; have q235 : x10_1 < (t232.length : Int) := of_decide_eq_true az; obtain ⟨ad235, e235, hx235_0⟩ := Kd.at_int (Kd.R_reads' HO_8.out).2.2 x10_1 p235 q235
       cases e235
       replace p235 := eq_true p235; replace q235 := eq_true q235; go_wp2
       go_roundg k1
       case measure => have := HK1.out; omega
       case rel => exact ⟨(x3_1), (wrap64 (x10_1 + 1)), rz, H', ⟨by have := HK1.out; omega⟩, ⟨hr HO_3.out⟩, ⟨hr HO_8.out⟩, ⟨kz BK228⟩, ⟨bzs⟩⟩
     ·rw [if_neg c11] at H
      exact absurd H (by simp)
    ·rw [if_neg c10] at H
     exact absurd H (by simp)
   ·rw [if_neg c9] at H; have c9b0 := decide_eq_false c9; clear c9; obtain rfl := Option.some.inj H; go_wp2; go_ret
    exact ⟨_, ez, hr (Kd.R_mono HO_3.out (fun _ hk => trivial)), bzs⟩

/-! ### slices_Sort_int_int: function 70 -/
def slices_Sort_int_int.f (l0 : List Int) : Option (List Int) := if l0.length < 4611686018427387904 then some (l0.mergeSort fun x y => decide (x ≤ y)) else none
theorem slices_Sort_int_int.calls (P0_ : Nat → Prop) (u9000_ : Value) (l0 : List Int) (r : List Int) (w0 w : World) (hB : Below w0.heap.size w0 w) (ho0 : Kd.R (Kd.int .i64) 3 w w0.heap.size P0_ u9000_ l0) (h : slices_Sort_int_int.f l0 = some r) :
    Calls Try.prog 70 #[u9000_] w fun e w' => e = .returned (.tuple #[]) ∧ Kd.R (Kd.int .i64) 3 w' w0.heap.size (fun k_ => (P0_ k_ ∨ w.heap.size ≤ k_)) u9000_ r ∧ Below w0.heap.size w0 w' ∧ Kept w w' (fun k_ => P0_ k_) := by
  unfold slices_Sort_int_int.f at h
  split at h
  · rename_i hlt
    obtain rfl := Option.some.inj h; have hown := Kd.own_of_R ho0
    rcases hown.2 with ⟨rfl, h0⟩ | ⟨g, cap, cur, rfl, hg, hb, h1, h2, h3, h4⟩
    · obtain rfl : l0 = [] := List.eq_nil_of_length_eq_zero h0; refine (Try.slices_Sort_int_none none 0 w).mono ?_; rintro e w' ⟨rfl, rfl⟩
      exact ⟨rfl, by simpa using Kd.R_mono ho0 (fun k hk => .inl hk), hB, Kept.refl _ _⟩
    · have hl : (l0.mergeSort fun x y => decide (x ≤ y)).length = l0.length := List.length_mergeSort _; refine (Try.slices_Sort_int g 0 cap l0 w (Go.holds_of_blockI hb (by simpa [encs] using h4)) (blk_lt hb) hlt).mono ?_; rintro e w' ⟨rfl, n, os, rfl⟩; have hgr := Go.grownBy_sortedI (w := w) (g := g) (n := n) (os := os) (l0.mergeSort fun x y => decide (x ≤ y)).toArray; refine ⟨rfl, Kd.R_of_own (enc := Value.int .i64) ?_ (fun k hk => .inl (ho0.1 k hk)), hB.grown hgr (Nat.le_trans hB.size (Nat.le_refl _)) (fun k hk => by cases hk; exact hg), hgr.size, fun i hi hP => hgr.block i hi (fun e => hP (ho0.1 i (by simpa [Value.ownBlock] using e.symm)))⟩; have := Go.ownsRow_sortedI (n := n) (os := os) hl hg hb h1 h2 h3; rw [hl]; simpa [encs] using this
  · cases h
/-! ### slices_Compact_int_int: function 71 -/
def slices_Compact_int_int.f (l0 : List Int) : Option (List Int) := if l0.length ≤ 9223372036854775807 then some (Go.Lib.compact l0) else none
theorem slices_Compact_int_int.calls (P0_ : Nat → Prop) (u9000_ : Value) (l0 : List Int) (r : List Int) (w0 w : World) (hB : Below w0.heap.size w0 w) (ho0 : Kd.R (Kd.int .i64) 3 w w0.heap.size P0_ u9000_ l0) (h : slices_Compact_int_int.f l0 = some r) :
    Calls Try.prog 71 #[u9000_] w fun e w' => ∃ v0_ : Value, e = .returned (v0_) ∧ Kd.R (Kd.int .i64) 3 w' w0.heap.size (fun k_ => (P0_ k_ ∨ w.heap.size ≤ k_)) v0_ r ∧ Below w0.heap.size w0 w' ∧ Kept w w' (fun k_ => P0_ k_) := by
  unfold slices_Compact_int_int.f at h
  split at h
  · rename_i hlt
    obtain rfl := Option.some.inj h; have hown := Kd.own_of_R ho0
    rcases hown.2 with ⟨rfl, h0⟩ | ⟨g, cap, cur, rfl, hg, hb, h1, h2, h3, h4⟩
    · obtain rfl : l0 = [] := List.eq_nil_of_length_eq_zero h0; refine (Try.slices_Compact_int_empty none 0 w).mono ?_; rintro e w' ⟨rfl, rfl⟩
      exact ⟨_, rfl, by simpa [Go.Lib.compact, Go.Lib.compactUpTo] using Kd.R_mono ho0 (fun k hk => .inl hk), hB, Kept.refl _ _⟩
    · have hle := compact_le l0; have hl : (Go.Lib.compact l0 ++ List.replicate (l0.length - (Go.Lib.compact l0).length) 0).length = l0.length := by simp; omega
      refine (Try.slices_Compact_int g 0 cap l0 w (Go.holds_of_blockI hb (by simpa [encs] using h4)) hlt h1).mono ?_; rintro e w' ⟨rfl, n, rfl⟩; have hgr := Go.grownBy_sortedI (w := w) (g := g) (n := n) (os := #[]) (Go.Lib.compact l0 ++ List.replicate (l0.length - (Go.Lib.compact l0).length) 0).toArray; rw [Go.Sort.grow_empty] at hgr; refine ⟨_, rfl, Kd.R_of_own (enc := Value.int .i64) ?_ (fun k hk => .inl (ho0.1 k (by simpa [Value.ownBlock] using hk))), hB.grown hgr (Nat.le_trans hB.size (Nat.le_refl _)) (fun k hk => by cases hk; exact hg), hgr.size, fun i hi hP => hgr.block i hi (fun e => hP (ho0.1 i (by simpa [Value.ownBlock] using e.symm)))⟩; have := Go.ownsRow_sortedI (n := n) (os := #[]) hl hg hb h1 h2 h3; rw [Go.Sort.grow_empty] at this; have hc := own_cut this (m := (Go.Lib.compact l0).length) hle; simpa [encs] using hc
  · cases h
/-! ### impl_Neighbours: function 39 -/
mutual
def impl_Neighbours.l0 : Nat → Int → List Int → List Int → Int → Int → Int → Int → ByteArray → Option (List Int)
 | 0, _, _, _, _, _, _, _, _ => none
 | k + 1, x1, x5, x6, x14, x15, x240000, x240001, x240002 => if x15 < x14 then (if 0 ≤ x15 then (if x15 < (x5.length : Int) then (if (rd x5 x15) = x1 then ((impl_beside.f k x240000 x240001 x240002 x15).bind fun t251 => (impl_Neighbours.l1 k x1 x5 x6 x14 x15 t251 (t251.length : Int) 0 x240000 x240001 x240002)) else (impl_Neighbours.l0 k x1 x5 x6 x14 (wrap64 (x15 + 1)) x240000 x240001 x240002)) else (none)) else (none)) else ((slices_Sort_int_int.f x6).bind fun t246 => ((slices_Compact_int_int.f t246).bind fun t247 => (some t247)))
def impl_Neighbours.l1 : Nat → Int → List Int → List Int → Int → Int → List Int → Int → Int → Int → Int → ByteArray → Option (List Int)
 | 0, _, _, _, _, _, _, _, _, _, _, _ => none
 | k + 1, x1, x5, x6, x14, x15, x26, x27, x28, x240000, x240001, x240002 => if x28 < x27 then (if 0 ≤ x28 then (if x28 < (x26.length : Int) then (if 0 ≤ (rd x26 x28) then (if (rd x26 x28) < (x5.length : Int) then (if (rd x5 (rd x26 x28)) = x1 then (impl_Neighbours.l1 k x1 x5 x6 x14 x15 x26 x27 (wrap64 (x28 + 1)) x240000 x240001 x240002) else (if x6.length < 17592186044416 then (impl_Neighbours.l1 k x1 x5 (x6 ++ [rd x5 (rd x26 x28)]) x14 x15 x26 x27 (wrap64 (x28 + 1)) x240000 x240001 x240002) else (none))) else (none)) else (none)) else (none)) else (none)) else (impl_Neighbours.l0 k x1 x5 x6 x14 (wrap64 (x15 + 1)) x240000 x240001 x240002)
end
def impl_Neighbours.f (k : Nat) (a0_0 : Int) (a0_1 : Int) (a0_2 : ByteArray) (a1 : Int) : Option (List Int) := (impl_regions.f k a0_0 a0_1 a0_2).bind fun t240 => (impl_Neighbours.l0 k a1 t240 (([] : List Int)) (t240.length : Int) 0 a0_0 a0_1 a0_2)
theorem impl_Neighbours.mono_l : ∀ k, (∀ y0 y1 y2 y3 y4 y5 y6 y7, LeO (impl_Neighbours.l0 k y0 y1 y2 y3 y4 y5 y6 y7) (impl_Neighbours.l0 (k + 1) y0 y1 y2 y3 y4 y5 y6 y7)) ∧ (∀ y0 y1 y2 y3 y4 y5 y6 y7 y8 y9 y10, LeO (impl_Neighbours.l1 k y0 y1 y2 y3 y4 y5 y6 y7 y8 y9 y10) (impl_Neighbours.l1 (k + 1) y0 y1 y2 y3 y4 y5 y6 y7 y8 y9 y10))
 | 0 => ⟨fun _ _ _ _ _ _ _ _ r h => by simp [impl_Neighbours.l0] at h, fun _ _ _ _ _ _ _ _ _ _ _ r h => by simp [impl_Neighbours.l1] at h⟩
 | k + 1 => by
  obtain ⟨ih0, ih1⟩ := impl_Neighbours.mono_l k; refine ⟨?_, ?_⟩
  ·intro y0 y1 y2 y3 y4 y5 y6 y7
   unfold impl_Neighbours.l0
   repeat' first | (with_reducible first | exact ih0 _ _ _ _ _ _ _ _ | exact ih1 _ _ _ _ _ _ _ _ _ _ _ | exact impl_beside.mono _ _ _ _ _ | exact impl_regions.mono _ _ _ _ | exact LeO.refl _ | exact LeO.none _ | refine LeO.ite ?_ ?_ | refine LeO.bind ?_ (fun _ => ?_)) | exact ih0 _ _ _ _ _ _ _ _ | exact ih1 _ _ _ _ _ _ _ _ _ _ _ | exact impl_beside.mono _ _ _ _ _ | exact impl_regions.mono _ _ _ _ | exact LeO.none _ | refine LeO.ite ?_ ?_ | refine LeO.bind ?_ (fun _ => ?_)
  ·intro y0 y1 y2 y3 y4 y5 y6 y7 y8 y9 y10
   unfold impl_Neighbours.l1
   repeat' first | (with_reducible first | exact ih0 _ _ _ _ _ _ _ _ | exact ih1 _ _ _ _ _ _ _ _ _ _ _ | exact impl_beside.mono _ _ _ _ _ | exact impl_regions.mono _ _ _ _ | exact LeO.refl _ | exact LeO.none _ | refine LeO.ite ?_ ?_ | refine LeO.bind ?_ (fun _ => ?_)) | exact ih0 _ _ _ _ _ _ _ _ | exact ih1 _ _ _ _ _ _ _ _ _ _ _ | exact impl_beside.mono _ _ _ _ _ | exact impl_regions.mono _ _ _ _ | exact LeO.none _ | refine LeO.ite ?_ ?_ | refine LeO.bind ?_ (fun _ => ?_)
theorem impl_Neighbours.mono : ∀ a0 a1 a2 a3 k, LeO (impl_Neighbours.f k a0 a1 a2 a3) (impl_Neighbours.f (k + 1) a0 a1 a2 a3) := by
 intro a0 a1 a2 a3 k; obtain ⟨ih0, ih1⟩ := impl_Neighbours.mono_l k
 unfold impl_Neighbours.f
 repeat' first | (with_reducible first | exact ih0 _ _ _ _ _ _ _ _ | exact ih1 _ _ _ _ _ _ _ _ _ _ _ | exact impl_beside.mono _ _ _ _ _ | exact impl_regions.mono _ _ _ _ | exact LeO.refl _ | exact LeO.none _ | refine LeO.ite ?_ ?_ | refine LeO.bind ?_ (fun _ => ?_)) | exact ih0 _ _ _ _ _ _ _ _ | exact ih1 _ _ _ _ _ _ _ _ _ _ _ | exact impl_beside.mono _ _ _ _ _ | exact impl_regions.mono _ _ _ _ | exact LeO.none _ | refine LeO.ite ?_ ?_ | refine LeO.bind ?_ (fun _ => ?_)
set_option maxHeartbeats 8000000 in
set_option maxRecDepth 100000 in
theorem impl_Neighbours.calls (k : Nat) (a0_0 : Int) (a0_1 : Int) (a0_2 : ByteArray) (a1 : Int) (r : List Int) (w : World) (h : impl_Neighbours.f k a0_0 a0_1 a0_2 a1 = some r) :
  Calls Try.prog 39 #[.agg #[.int .i64 a0_0, .int .i64 a0_1, .string a0_2], .int .i64 a1] w fun e w' => ∃ v0_ : Value, e = .returned (v0_) ∧ Kd.R (Kd.int .i64) 3 w' w.heap.size (fun _ => True) v0_ r ∧ Below w.heap.size w w' := by
 have hu26 := Try.underlying26; have HB := Aside0.mk (Below.refl w.heap.size w); have H : ((impl_regions.f k a0_0 a0_1 a0_2).bind fun t240 => (impl_Neighbours.l0 k a1 t240 (([] : List Int)) (t240.length : Int) 0 a0_0 a0_1 a0_2)) = some r := h; clear h; replace H := Option.bind_eq_some_iff.mp H; obtain ⟨t240, A30, H⟩ := H; have A3 := Aside0.mk A30; clear A30; obtain ⟨y243, hy243⟩ : ∃ y_ : List Int, y_ = (([] : List Int)) := ⟨_, rfl⟩
 replace H : (impl_Neighbours.l0 k a1 t240 y243 (t240.length : Int) 0 a0_0 a0_1 a0_2) = some r := by first | (rw [hy243]; with_reducible exact H) | (have H2_ := (Option.bind_some _ _).symm.trans H; rw [hy243]; with_reducible exact H2_) | (have H2_ := (Option.bind_some _ _).symm.trans H; with_reducible exact H2_) | with_reducible exact H | (rw [hy243]; exact H) | exact H
 have Ny243 := Aside0.mk hy243; clear hy243; have H' := Aside0.mk H; clear H
 go_enter Try.func39, Try.ntmps39; go_wp2_with (first | ((with_reducible refine gt (some 2) rfl ?_); refine bx #[.int .i64 a0_0, .int .i64 a0_1, .string a0_2] 26 ?_; intro gb239 hg w4 hbox hb; have BK239 := Aside0.mk (hbox); have GW239 := Aside0.mk (gez HB hg); have GE239 := Aside0.mk (gez HB hg); replace HB := Aside0.mk (below_step bz hb); clear hb hbox hg; obtain ⟨hcz5_0, hcz5_1, hcz5_2, hfz5_0, hfz5_1, hfz5_2⟩ := cells3 BK239) | ((with_reducible refine gt (some 11) rfl ?_); refine gc Try.func66 (impl_regions.calls k a0_0 a0_1 a0_2 t240 _ A3.out) ?_; rintro e w6 ⟨v241, rfl, ho0, hb⟩; refine ⟨_, rfl, ?_⟩; have HO242 := Aside0.mk (Kd.R_lower ho0 (below_size bzs)); replace BK239 := Aside0.mk (bbz BK239 hb); replace HB := Aside0.mk (below_step bzs hb); (try clear hb); (try clear ho0)) | ((with_reducible refine gate_dst (N := 12) rfl ?_); refine Kd.R_lit (Kd.int .i64) _ 3 ?hg (N := 12) ?hd (xs := ([] : List Int)) (inner := []) (ok := fun _ => True) (okp := fun _ => True) ?hr ?hp (fun _ hk => hk) trivial (Below.refl _ _) (Nat.le_refl _) (by simp) ?_; (case hd => rfl); (case hg => rfl); (case hr => first | (go_simp; done) | (go_simp; rfl)); (case hp => exact (Reps.none _ _)); intro v244 w7 ho8 hb hg_ hnew_; clear hg_ hnew_; (first | rw [← Ny243.out] at ho8 | (simp only [Int.reduceToNat] at ho8; rw [← Ny243.out] at ho8)); have HO245 := Aside0.mk (Kd.R_lower (Kd.R_new' ho8 (Kd.R_lt (hr HO242.out))) (below_size bzs)); replace HO242 := Aside0.mk (Kd.R_elder' (hr HO242.out) (Kd.R_base ho8) hb); replace BK239 := Aside0.mk (bbz BK239 hb); replace HB := Aside0.mk (below_step bzs hb); clear hb ho8; obtain ⟨Ao9, co9, eo9⟩ := Kd.R_slice HO242.out; subst eo9))
 (try simp only [Act.put, List.setIfInBounds_toArray, List.set_cons_zero, List.set_cons_succ])
 go_loopg [6, 15] k (fun kq v6 v15 w' => ∃ (x6_1 : List Int) (x15_1 : Int), v15 = .int .i64 x15_1 ∧ Aside0 (impl_Neighbours.l0 kq a1 t240 x6_1 (t240.length : Int) x15_1 a0_0 a0_1 a0_2 = some r) ∧ Aside0 (kq ≤ k) ∧ Aside0 (Kd.R (Kd.int .i64) 3 w' w.heap.size (fun k_ => some k_ ≠ (v6 : Value).ownBlock) (.slice Ao9 t240.length co9) t240) ∧ Aside0 (Kd.R (Kd.int .i64) 3 w' w.heap.size (fun k_ => some k_ ≠ ((.slice Ao9 t240.length co9) : Value).ownBlock) v6 x6_1) ∧ Aside0 (w'.heap[gb239]? = some (.cells #[.int .i64 a0_0, .int .i64 a0_1, .string a0_2] 26 (0, 0))) ∧ Aside0 (Below w.heap.size w w'))
 case atStart => exact ⟨(y243), (0), rz, H', ⟨Nat.le_refl _⟩, ⟨hr (Kd.R_mono HO242.out (fun _ hk => hk.2))⟩, ⟨hr (Kd.R_mono HO245.out (fun _ hk => hk.2))⟩, ⟨kz BK239⟩, ⟨bzs⟩⟩
 case round =>
  clear H'; (try clear p2); (try clear c3); (try clear c6); (try clear hcz5_0); (try clear hcz5_1); (try clear hcz5_2); (try clear hfz5_0); (try clear hfz5_1); (try clear hfz5_2); obtain ⟨x6_1, x15_1, rfl, HA, HK1, HO_5, HO_6, BK239, HB⟩ := hrel
  cases gk with
  | zero => exact absurd HA.out (by simp [impl_Neighbours.l0])
  | succ k1 =>
   have H := HA.out; clear HA; simp only [impl_Neighbours.l0] at H
   by_cases c10 : x15_1 < (t240.length : Int)
   ·rw [if_pos c10] at H; have c10b0 := decide_eq_true c10; clear c10
    by_cases c11 : 0 ≤ x15_1
    ·rw [if_pos c11] at H; have c11b0 := decide_eq_true c11; clear c11
     by_cases c12 : x15_1 < (t240.length : Int)
     ·rw [if_pos c12] at H; have c12b0 := decide_eq_true c12; clear c12
      by_cases c13 : (rd t240 x15_1) = a1
      ·rw [if_pos c13] at H; have c13b0 : ((rd t240 x15_1) == a1) = true := beq_iff_eq.mpr c13; have c13b1 : ((rd t240 x15_1) != a1) = false := bne_eq_false_iff_eq.mpr c13; clear c13; replace H := Option.bind_eq_some_iff.mp H; obtain ⟨t251, A140, H⟩ := H; have A14 := Aside0.mk A140; clear A140; have H' := Aside0.mk H; clear H; have p250 : 0 ≤ (x15_1 : Int) := of_decide_eq_true az; have q250 : x15_1 < (t240.length : Int) := of_decide_eq_true az; obtain ⟨ad250, e250, hx250_0⟩ := Kd.at_int (Kd.R_reads' HO_5.out).2.2 x15_1 p250 q250
       cases e250
       replace p250 := eq_true p250; replace q250 := eq_true q250; obtain ⟨hcz15_0, hcz15_1, hcz15_2, hfz15_0, hfz15_1, hfz15_2⟩ := cells3 BK239; go_wp2_with (first | ((with_reducible refine gt (some 26) rfl ?_); refine gc Try.func73 (impl_beside.calls k1 a0_0 a0_1 a0_2 x15_1 t251 _ A14.out) ?_; rintro e w16 ⟨v252, rfl, ho0, hb⟩; refine ⟨_, rfl, ?_⟩; have HO253 := Aside0.mk (Kd.R_lower (Kd.R_new' (Kd.R_new' ho0 (Kd.R_lt (hr HO_5.out))) (Kd.R_lt (hr HO_6.out))) (below_size bzs)); replace HO_5 := Aside0.mk (Kd.R_elder' (hr HO_5.out) (Kd.R_base ho0) hb); replace HO_6 := Aside0.mk (Kd.R_elder' (hr HO_6.out) (Kd.R_base ho0) hb); replace BK239 := Aside0.mk (bbz BK239 hb); replace HB := Aside0.mk (below_step bzs hb); (try clear hb); (try clear ho0); obtain ⟨Ao17, co17, eo17⟩ := Kd.R_slice HO253.out; subst eo17)); (try simp only [Act.put, List.setIfInBounds_toArray, List.set_cons_zero, List.set_cons_succ])
       go_loopg [6, 28] k1 (fun kq v6 v28 w' => ∃ (x6_2 : List Int) (x28_2 : Int), v28 = .int .i64 x28_2 ∧ Aside0 (impl_Neighbours.l1 kq a1 t240 x6_2 (t240.length : Int) x15_1 t251 (t251.length : Int) x28_2 a0_0 a0_1 a0_2 = some r) ∧ Aside0 (kq ≤ k1) ∧ Aside0 (Kd.R (Kd.int .i64) 3 w' w.heap.size (fun k_ => some k_ ≠ (v6 : Value).ownBlock ∧ some k_ ≠ ((.slice Ao17 t251.length co17) : Value).ownBlock) (.slice (some ad250) t240.length co9) t240) ∧ Aside0 (Kd.R (Kd.int .i64) 3 w' w.heap.size (fun k_ => some k_ ≠ ((.slice (some ad250) t240.length co9) : Value).ownBlock ∧ some k_ ≠ ((.slice Ao17 t251.length co17) : Value).ownBlock) v6 x6_2) ∧ Aside0 (Kd.R (Kd.int .i64) 3 w' w.heap.size (fun k_ => some k_ ≠ ((.slice (some ad250) t240.length co9) : Value).ownBlock ∧ some k_ ≠ (v6 : Value).ownBlock) (.slice Ao17 t251.length co17) t251) ∧ Aside0 (w'.heap[gb239]? = some (.cells #[.int .i64 a0_0, .int .i64 a0_1, .string a0_2] 26 (0, 0))) ∧ Aside0 (Below w.heap.size w w'))
       case atStart => exact ⟨(x6_1), (0), rz, H', ⟨Nat.le_refl _⟩, ⟨hr HO_5.out⟩, ⟨hr HO_6.out⟩, ⟨hr (Kd.R_mono HO253.out (fun _ hk => And.intro hk.1.2 hk.2))⟩, ⟨kz BK239⟩, ⟨bzs⟩⟩
       case round =>
        clear H'; (try clear c1); (try clear p2); (try clear q2); (try clear hx2); (try clear c3); (try clear c6); (try clear c7); (try clear c10); (try clear c10b0); (try clear c11); (try clear c11b0); (try clear c12); (try clear c12b0); (try clear c13); (try clear c13b0); (try clear c13b1); (try clear hcz15_0); (try clear hcz15_1); (try clear hcz15_2); (try clear hcz5_0); (try clear hcz5_1); (try clear hcz5_2); (try clear hfz15_0); (try clear hfz15_1); (try clear hfz15_2); (try clear hfz5_0); (try clear hfz5_1); (try clear hfz5_2); (try clear hx250_0); (try clear p2); (try clear p250); (try clear q250); obtain ⟨x6_2, x28_2, rfl, HA, HK2, HO_5, HO_6, HO_26, BK239, HB⟩ := hrel
        cases gk with
        | zero => exact absurd HA.out (by simp [impl_Neighbours.l1])
        | succ k2 =>
         have H := HA.out; clear HA; simp only [impl_Neighbours.l1] at H
         by_cases c18 : x28_2 < (t251.length : Int)
         ·rw [if_pos c18] at H; have c18b0 := decide_eq_true c18; clear c18
          by_cases c19 : 0 ≤ x28_2
          ·rw [if_pos c19] at H; have c19b0 := decide_eq_true c19; clear c19
           by_cases c20 : x28_2 < (t251.length : Int)
           ·rw [if_pos c20] at H; have c20b0 := decide_eq_true c20; clear c20
            by_cases c21 : 0 ≤ (rd t251 x28_2)
            ·rw [if_pos c21] at H; have c21b0 := decide_eq_true c21; clear c21
             by_cases c22 : (rd t251 x28_2) < (t240.length : Int)
             ·rw [if_pos c22] at H; have c22b0 := decide_eq_true c22; clear c22
              by_cases c23 : (rd t240 (rd t251 x28_2)) = a1
              ·rw [if_pos c23] at H; have c23b0 : ((rd t240 (rd t251 x28_2)) == a1) = true := beq_iff_eq.mpr c23; have c23b1 : ((rd t240 (rd t251 x28_2)) != a1) = false := bne_eq_false_iff_eq.mpr c23; clear c23; have H' := Aside0.mk H; clear H; have p254 : 0 ≤ (x28_2 : Int) := of_decide_eq_true az; have q254 : x28_2 < (t251.length : Int) := of_decide_eq_true az; obtain ⟨ad254, e254, hx254_0⟩ := Kd.at_int (Kd.R_reads' HO_26.out).2.2 x28_2 p254 q254
               cases e254
               replace p254 := eq_true p254; replace q254 := eq_true q254; have p255 : 0 ≤ ((rd t251 x28_2) : Int) := of_decide_eq_true az; have q255 : (rd t251 x28_2) < (t240.length : Int) := of_decide_eq_true az; obtain ⟨ad255, e255, hx255_0⟩ := Kd.at_int (Kd.R_reads' HO_5.out).2.2 (rd t251 x28_2) p255 q255; obtain rfl : ad250 = ad255 := (by injection e255)
               replace p255 := eq_true p255; replace q255 := eq_true q255; go_wp2
               go_roundg k2
               case measure => have := HK1.out; have := HK2.out; omega
               case rel => exact ⟨(x6_2), (wrap64 (x28_2 + 1)), rz, H', ⟨by have := HK1.out; have := HK2.out; omega⟩, ⟨hr HO_5.out⟩, ⟨hr HO_6.out⟩, ⟨hr HO_26.out⟩, ⟨kz BK239⟩, ⟨bzs⟩⟩
              ·rw [if_neg c23] at H; have c23b0 : ((rd t240 (rd t251 x28_2)) == a1) = false := beq_eq_false_iff_ne.mpr c23; have c23b1 : ((rd t240 (rd t251 x28_2)) != a1) = true := bne_iff_ne.mpr c23
               by_cases c24 : x6_2.length < 17592186044416
               ·rw [if_pos c24] at H; have LMc24 := Aside0.mk c24; clear c24; obtain ⟨y257, hy257⟩ : ∃ y_ : List Int, y_ = (x6_2 ++ [rd t240 (rd t251 x28_2)]) := ⟨_, rfl⟩
                replace H : (impl_Neighbours.l1 k2 a1 t240 y257 (t240.length : Int) x15_1 t251 (t251.length : Int) (wrap64 (x28_2 + 1)) a0_0 a0_1 a0_2) = some r := by first | (rw [hy257]; with_reducible exact H) | (have H2_ := (Option.bind_some _ _).symm.trans H; rw [hy257]; with_reducible exact H2_) | (have H2_ := (Option.bind_some _ _).symm.trans H; with_reducible exact H2_) | with_reducible exact H | (rw [hy257]; exact H) | exact H
                have Ny257 := Aside0.mk hy257; clear hy257; have H' := Aside0.mk H; clear H; have p254 : 0 ≤ (x28_2 : Int) := of_decide_eq_true az; have q254 : x28_2 < (t251.length : Int) := of_decide_eq_true az; obtain ⟨ad254, e254, hx254_0⟩ := Kd.at_int (Kd.R_reads' HO_26.out).2.2 x28_2 p254 q254
                cases e254
                replace p254 := eq_true p254; replace q254 := eq_true q254; have p255 : 0 ≤ ((rd t251 x28_2) : Int) := of_decide_eq_true az; have q255 : (rd t251 x28_2) < (t240.length : Int) := of_decide_eq_true az; obtain ⟨ad255, e255, hx255_0⟩ := Kd.at_int (Kd.R_reads' HO_5.out).2.2 (rd t251 x28_2) p255 q255; obtain rfl : ad250 = ad255 := (by injection e255)
                replace p255 := eq_true p255; replace q255 := eq_true q255; have p256 : 0 ≤ ((rd t251 x28_2) : Int) := of_decide_eq_true az; have q256 : (rd t251 x28_2) < (t240.length : Int) := of_decide_eq_true az; obtain ⟨ad256, e256, hx256_0⟩ := Kd.at_int (Kd.R_reads' HO_5.out).2.2 (rd t251 x28_2) p256 q256; obtain rfl : ad250 = ad256 := (by injection e256)
                replace p256 := eq_true p256; replace q256 := eq_true q256; go_wp2_with (first | ((with_reducible refine gate_builtin (b := .append) (xs := #[.tmp 38, .tmp 43]) rfl ?_); at_builtin; refine Kd.R_append (Kd.int .i64) (w0 := w) w.heap.size rfl (.tmp 38) (.tmp 43) 29 3 (.int .i64 0) 8 rfl Try.underlying29 info3 rfl (by decide) (by omega) u6 x6_2 (rd t240 (rd t251 x28_2)) [.int .i64 (rd t240 (rd t251 x28_2))] (fun k_ => some k_ ≠ (.slice (some ad250) t240.length co9 : Value).ownBlock ∧ some k_ ≠ (.slice (some ad254) t251.length co17 : Value).ownBlock) (fun _ => False) rfl rfl ?aP (fun _ hk => hk.elim) ?aF ?aO ?aB ?aS ?aL ?_; (case aP => exact rfl); (case aB => exact bzs); (case aF => exact (fun k_ hk => ⟨Kd.fresh' (Kd.R_lt (hr HO_5.out)) k_ hk, Kd.fresh' (Kd.R_lt (hr HO_26.out)) k_ hk⟩)); (case aO => exact (hr HO_6.out)); (case aS => exact (below_size bzs)); (case aL => have := LMc24.out; omega); intro v258 w25 ho hb hg hat; rw [← Ny257.out] at ho; have n0_ := Aside0.mk (Kd.R_after (ok := (fun k_ => some k_ ≠ (.slice (some ad254) t251.length co17 : Value).ownBlock)) (hr (Kd.R_mono HO_5.out (fun _ hk => And.intro hk.2 hk.1))) hg hat); have n1_ := Aside0.mk (Kd.R_after (ok := (fun k_ => some k_ ≠ (.slice (some ad250) t240.length co9 : Value).ownBlock)) (hr HO_26.out) hg hat); have n2_ := Aside0.mk (blk_grown (g := gb239) (o := .cells #[.int .i64 a0_0, .int .i64 a0_1, .string a0_2] 26 (0, 0)) (kz BK239) hg (Kd.R_ne HO_6.out BK239.out (by decide))); have n3_ := Aside0.mk (hb); have n4_ := Aside0.mk (ho); clear HO_5; clear HO_26; clear BK239; clear HB; clear HO_6; have HO_5 := n0_; have HO_26 := n1_; have BK239 := n2_; have HB := n3_; have HO259 := n4_; clear n0_ n1_ n2_ n3_ n4_; clear ho hb hg hat))
                go_roundg k2
                case measure => have := HK1.out; have := HK2.out; omega
                case rel => exact ⟨(y257), (wrap64 (x28_2 + 1)), rz, H', ⟨by have := HK1.out; have := HK2.out; omega⟩, ⟨hr (Kd.R_mono HO_5.out (fun _ hk => And.intro hk.2 hk.1))⟩, ⟨hr HO259.out⟩, ⟨hr HO_26.out⟩, ⟨kz BK239⟩, ⟨bzs⟩⟩
               ·rw [if_neg c24] at H
                exact absurd H (by simp)
             ·rw [if_neg c22] at H
              exact absurd H (by simp)
            ·rw [if_neg c21] at H
             exact absurd H (by simp)
           ·rw [if_neg c20] at H
            exact absurd H (by simp)
          ·rw [if_neg c19] at H
           exact absurd H (by simp)
         ·rw [if_neg c18] at H; have c18b0 := decide_eq_false c18; clear c18; have H' := Aside0.mk H; clear H; go_wp2
          go_roundg k2
          case measure => have := HK1.out; have := HK2.out; omega
          case rel => exact ⟨(x6_2), (wrap64 (x15_1 + 1)), rz, H', ⟨by have := HK1.out; have := HK2.out; omega⟩, ⟨hr (Kd.R_mono HO_5.out (fun _ hk => hk.1))⟩, ⟨hr (Kd.R_mono HO_6.out (fun _ hk => hk.1))⟩, ⟨kz BK239⟩, ⟨bzs⟩⟩
      ·rw [if_neg c13] at H; have c13b0 : ((rd t240 x15_1) == a1) = false := beq_eq_false_iff_ne.mpr c13; have c13b1 : ((rd t240 x15_1) != a1) = true := bne_iff_ne.mpr c13; have H' := Aside0.mk H; clear H; have p250 : 0 ≤ (x15_1 : Int) := of_decide_eq_true az; have q250 : x15_1 < (t240.length : Int) := of_decide_eq_true az; obtain ⟨ad250, e250, hx250_0⟩ := Kd.at_int (Kd.R_reads' HO_5.out).2.2 x15_1 p250 q250
       cases e250
       replace p250 := eq_true p250; replace q250 := eq_true q250; go_wp2
       go_roundg k1
       case measure => have := HK1.out; omega
       case rel => exact ⟨(x6_1), (wrap64 (x15_1 + 1)), rz, H', ⟨by have := HK1.out; omega⟩, ⟨hr HO_5.out⟩, ⟨hr HO_6.out⟩, ⟨kz BK239⟩, ⟨bzs⟩⟩
     ·rw [if_neg c12] at H
      exact absurd H (by simp)
    ·rw [if_neg c11] at H
     exact absurd H (by simp)
   ·rw [if_neg c10] at H; have c10b0 := decide_eq_false c10; clear c10; replace H := Option.bind_eq_some_iff.mp H; obtain ⟨t246, A260, H⟩ := H; have A26 := Aside0.mk A260; clear A260; replace H := Option.bind_eq_some_iff.mp H; obtain ⟨t247, A270, H⟩ := H; have A27 := Aside0.mk A270; clear A270; obtain rfl := Option.some.inj H; obtain ⟨Ao28, co28, eo28⟩ := Kd.R_slice HO_6.out; subst eo28; go_wp2_with (first | ((with_reducible refine gt (some 48) rfl ?_); refine gc Try.func70 (slices_Sort_int_int.calls (fun k_ => some k_ = (.slice Ao28 x6_1.length co28 : Value).ownBlock) (.slice Ao28 x6_1.length co28) x6_1 t246 w _ (by repeat (first | (with_reducible first | exact HB.out | apply below_alloc | apply pw_below_drewN | apply below_drew1 | refine below_set ?_ GE239.out) | exact HB.out)) (Kd.R_tight rfl HO_6.out) A26.out) ?_; rintro e w29 ⟨rfl, hy0, hb, hkp⟩; refine ⟨_, rfl, ?_⟩; replace HO_5 := Aside0.mk (Kd.R_mono (ok' := fun k_ => some k_ ≠ (.slice Ao28 x6_1.length co28 : Value).ownBlock) (Kd.R_keptB (HO_5.out) hkp (fun k_ hk_ hs_ => absurd hs_ (by first | exact hk_ | exact hk_.1.2 | exact hk_.1.1 | exact hk_.1 | exact hk_.2 | exact hk_.1.1.2 | exact hk_))) (fun k_ hk_ => hk_.1)); replace BK239 := Aside0.mk (blk_kept (kz BK239) hkp (fun hs_ => (fun e_ => (Kd.R_ne HO_6.out BK239.out (by decide)) e_) hs_)); replace HO_6 := Aside0.mk (Kd.R_reok rfl hy0 (fun k_ e_ => HO_6.out.1 k_ e_)); replace HB := Aside0.mk (hb); (try clear hb); (try clear hkp); (try clear hy0)) | ((with_reducible refine gt (some 50) rfl ?_); refine gc Try.func71 (slices_Compact_int_int.calls (fun k_ => some k_ = (.slice Ao28 x6_1.length co28 : Value).ownBlock) (.slice Ao28 x6_1.length co28) t246 t247 w _ (by repeat (first | (with_reducible first | exact HB.out | apply below_alloc | apply pw_below_drewN | apply below_drew1 | refine below_set ?_ GE239.out) | exact HB.out)) (Kd.R_tight rfl HO_6.out) A27.out) ?_; rintro e w30 ⟨v248, rfl, ho0, hb, hkp⟩; refine ⟨_, rfl, ?_⟩; have n0_ := Aside0.mk (Kd.R_mono (ok' := fun k_ => some k_ ≠ (v248 : Value).ownBlock) (Kd.R_keptB (HO_5.out) hkp (fun k_ hk_ hs_ => absurd hs_ (by first | exact hk_ | exact hk_.1.2 | exact hk_.1.1 | exact hk_.1 | exact hk_.2 | exact hk_.1.1.2 | exact hk_))) (fun k_ hk_ => fun e_ => Or.elim (ho0.1 k_ e_.symm) (fun hs_ => hk_.2.1 hs_) (fun hn_ => Nat.not_le.2 hk_.2.2 hn_))); have n1_ := Aside0.mk (blk_kept (kz BK239) hkp (fun hs_ => (fun e_ => (Kd.R_ne HO_6.out BK239.out (by decide)) e_) hs_)); have n2_ := Aside0.mk (Kd.R_mono (ok' := fun k_ => some k_ ≠ (.slice Ao9 t240.length co9 : Value).ownBlock) ho0 (fun k_ hk_ => Or.elim hk_ (fun hs_ => fun e_ => (((HO_5.out).1 k_ e_.symm)) hs_) (fun hn_ => (Kd.fresh' (Kd.R_lt (hr HO_5.out)) k_ hn_)))); have n3_ := Aside0.mk (hb); clear HO_5; clear BK239; clear HB; clear HO_6; have HO_5 := n0_; have BK239 := n1_; have HO249 := n2_; have HB := n3_; clear n0_ n1_ n2_ n3_; (try clear hb); (try clear hkp); (try clear ho0)))
    go_ret
    exact ⟨_, ez, hr (Kd.R_mono HO249.out (fun _ hk => trivial)), bzs⟩

/-! ### laws_big: function 44 -/
def laws_big.f (l0 : List Int) : Option (Bool) := some (decide ((l0.length : Int) > 1048576))
set_option maxHeartbeats 8000000 in
set_option maxRecDepth 100000 in
theorem laws_big.calls (A0 : Option Addr) (c0 : Nat) (l0 : List Int) (r : Bool) (w : World) (hr0 : Kd.C (Kd.int .u8) w A0 l0.length l0) (hc0 : l0.length ≤ c0) (h : laws_big.f l0 = some r) :
  Calls Try.prog 44 #[.slice A0 l0.length c0] w fun e w' => e = .returned (.bool r) ∧ Drawn0 w w' := by
 have HR0 := Aside0.mk hr0; have HC0 := Aside0.mk hc0; clear hr0 hc0; have H : (some (decide ((l0.length : Int) > 1048576))) = some r := h; clear h; obtain rfl := Option.some.inj H
 go_enter Try.func44, Try.ntmps44; go_wp2; go_ret
 exact ⟨by first | rfl | (simp; done) | (simp [*]; done), by repeat (first | exact Drawn0.refl _ | apply Drawn0.step)⟩

/-! ### impl_RegionOf: function 51 -/
def impl_RegionOf.f (k : Nat) (a0_0 : Int) (a0_1 : Int) (a0_2 : ByteArray) (a1 : Int) : Option (Int) := (impl_regions.f k a0_0 a0_1 a0_2).bind fun t261 => (if a1 < 0 then (some (-1)) else (if a1 ≥ (t261.length : Int) then (some (-1)) else (if 0 ≤ a1 then (if a1 < (t261.length : Int) then (some (rd t261 a1)) else (none)) else (none))))
theorem impl_RegionOf.mono : ∀ a0 a1 a2 a3 k, LeO (impl_RegionOf.f k a0 a1 a2 a3) (impl_RegionOf.f (k + 1) a0 a1 a2 a3) := by
 intro a0 a1 a2 a3 k
 unfold impl_RegionOf.f
 repeat' first | (with_reducible first | exact impl_regions.mono _ _ _ _ | exact LeO.refl _ | exact LeO.none _ | refine LeO.ite ?_ ?_ | refine LeO.bind ?_ (fun _ => ?_)) | exact impl_regions.mono _ _ _ _ | exact LeO.none _ | refine LeO.ite ?_ ?_ | refine LeO.bind ?_ (fun _ => ?_)
set_option maxHeartbeats 8000000 in
set_option maxRecDepth 100000 in
theorem impl_RegionOf.calls (k : Nat) (a0_0 : Int) (a0_1 : Int) (a0_2 : ByteArray) (a1 : Int) (r : Int) (w : World) (h : impl_RegionOf.f k a0_0 a0_1 a0_2 a1 = some r) :
  Calls Try.prog 51 #[.agg #[.int .i64 a0_0, .int .i64 a0_1, .string a0_2], .int .i64 a1] w fun e w' => e = .returned (.int .i64 r) ∧ Below w.heap.size w w' := by
 have hu26 := Try.underlying26; have HB := Aside0.mk (Below.refl w.heap.size w); have H : ((impl_regions.f k a0_0 a0_1 a0_2).bind fun t261 => (if a1 < 0 then (some (-1)) else (if a1 ≥ (t261.length : Int) then (some (-1)) else (if 0 ≤ a1 then (if a1 < (t261.length : Int) then (some (rd t261 a1)) else (none)) else (none))))) = some r := h; clear h; replace H := Option.bind_eq_some_iff.mp H; obtain ⟨t261, A30, H⟩ := H; have A3 := Aside0.mk A30; clear A30
 by_cases c4 : a1 < 0
 ·rw [if_pos c4] at H; have c4b0 := decide_eq_true c4; clear c4; obtain rfl := Option.some.inj H
  go_enter Try.func51, Try.ntmps51; go_wp2_with (first | ((with_reducible refine gate_dst (N := 2) rfl ?_); (try (refine gate_guard (by rfl) ?_; dsimp only)); refine box_event ?hg (N := 2) ?hd (cs := #[.int .i64 a0_0, .int .i64 a0_1, .string a0_2]) (t := 26) ?hr ?_; (case hd => rfl); (case hg => rfl); (case hr => first | (go_simp; done) | (go_simp; rfl)); intro gb260 hg w5 hbox hb; have BK260 := Aside0.mk (hbox); have GW260 := Aside0.mk (gez HB hg); have GE260 := Aside0.mk (gez HB hg); replace HB := Aside0.mk (below_step bz hb); clear hb hbox hg; obtain ⟨hcz6_0, hcz6_1, hcz6_2, hfz6_0, hfz6_1, hfz6_2⟩ := cells3 BK260) | ((with_reducible refine gt (some 7) rfl ?_); refine gc Try.func66 (impl_regions.calls k a0_0 a0_1 a0_2 t261 _ A3.out) ?_; rintro e w7 ⟨v262, rfl, ho0, hb⟩; refine ⟨_, rfl, ?_⟩; have HO263 := Aside0.mk (Kd.R_lower ho0 (below_size bzs)); replace BK260 := Aside0.mk (bbz BK260 hb); replace HB := Aside0.mk (below_step bzs hb); (try clear hb); (try clear ho0))); go_ret
  exact ⟨ez, bzs⟩
 ·rw [if_neg c4] at H; have c4b0 := decide_eq_false c4; clear c4
  by_cases c8 : a1 ≥ (t261.length : Int)
  ·rw [if_pos c8] at H; have c8b0 := decide_eq_true c8; clear c8; obtain rfl := Option.some.inj H
   go_enter Try.func51, Try.ntmps51; go_wp2_with (first | ((with_reducible refine gate_dst (N := 2) rfl ?_); (try (refine gate_guard (by rfl) ?_; dsimp only)); refine box_event ?hg (N := 2) ?hd (cs := #[.int .i64 a0_0, .int .i64 a0_1, .string a0_2]) (t := 26) ?hr ?_; (case hd => rfl); (case hg => rfl); (case hr => first | (go_simp; done) | (go_simp; rfl)); intro gb260 hg w9 hbox hb; have BK260 := Aside0.mk (hbox); have GW260 := Aside0.mk (gez HB hg); have GE260 := Aside0.mk (gez HB hg); replace HB := Aside0.mk (below_step bz hb); clear hb hbox hg; obtain ⟨hcz10_0, hcz10_1, hcz10_2, hfz10_0, hfz10_1, hfz10_2⟩ := cells3 BK260) | ((with_reducible refine gt (some 7) rfl ?_); refine gc Try.func66 (impl_regions.calls k a0_0 a0_1 a0_2 t261 _ A3.out) ?_; rintro e w11 ⟨v262, rfl, ho0, hb⟩; refine ⟨_, rfl, ?_⟩; have HO263 := Aside0.mk (Kd.R_lower ho0 (below_size bzs)); replace BK260 := Aside0.mk (bbz BK260 hb); replace HB := Aside0.mk (below_step bzs hb); (try clear hb); (try clear ho0); obtain ⟨Ao12, co12, eo12⟩ := Kd.R_slice HO263.out; subst eo12)); go_ret
   exact ⟨ez, bzs⟩
  ·rw [if_neg c8] at H; have c8b0 := decide_eq_false c8; clear c8
   by_cases c13 : 0 ≤ a1
   ·rw [if_pos c13] at H; have c13b0 := decide_eq_true c13; clear c13
    by_cases c14 : a1 < (t261.length : Int)
    ·rw [if_pos c14] at H; have c14b0 := decide_eq_true c14; clear c14; obtain rfl := Option.some.inj H
     go_enter Try.func51, Try.ntmps51; go_wp2_with (first | ((with_reducible refine gate_dst (N := 2) rfl ?_); (try (refine gate_guard (by rfl) ?_; dsimp only)); refine box_event ?hg (N := 2) ?hd (cs := #[.int .i64 a0_0, .int .i64 a0_1, .string a0_2]) (t := 26) ?hr ?_; (case hd => rfl); (case hg => rfl); (case hr => first | (go_simp; done) | (go_simp; rfl)); intro gb260 hg w15 hbox hb; have BK260 := Aside0.mk (hbox); have GW260 := Aside0.mk (gez HB hg); have GE260 := Aside0.mk (gez HB hg); replace HB := Aside0.mk (below_step bz hb); clear hb hbox hg; obtain ⟨hcz16_0, hcz16_1, hcz16_2, hfz16_0, hfz16_1, hfz16_2⟩ := cells3 BK260) | ((with_reducible refine gt (some 7) rfl ?_); refine gc Try.func66 (impl_regions.calls k a0_0 a0_1 a0_2 t261 _ A3.out) ?_; rintro e w17 ⟨v262, rfl, ho0, hb⟩; refine ⟨_, rfl, ?_⟩; have HO263 := Aside0.mk (Kd.R_lower ho0 (below_size bzs)); replace BK260 := Aside0.mk (bbz BK260 hb); replace HB := Aside0.mk (below_step bzs hb); (try clear hb); (try clear ho0); obtain ⟨Ao18, co18, eo18⟩ := Kd.R_slice HO263.out; subst eo18; have p264 : 0 ≤ (a1 : Int) := of_decide_eq_true az; have q264 : a1 < (t261.length : Int) := of_decide_eq_true az; obtain ⟨ad264, e264, hx264_0⟩ := Kd.at_int (Kd.R_reads' HO263.out).2.2 a1 p264 q264; cases e264; replace p264 := eq_true p264; replace q264 := eq_true q264)); go_ret
     exact ⟨ez, bzs⟩
    ·rw [if_neg c14] at H
     exact absurd H (by simp)
   ·rw [if_neg c13] at H
    exact absurd H (by simp)

end Go.Proofs.Ythodhcalknelcaa.PFnCovers
