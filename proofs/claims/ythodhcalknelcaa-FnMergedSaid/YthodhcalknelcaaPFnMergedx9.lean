-- Written by a program of this session's: the kit's print, turned (turnprint.py): functions, and that Go comes to just their answers.
import Derived.Test.YthodhcalknelcaaZ
import Derived.Test.YthodhcalknelcaaPFnMergedx0
import Derived.Test.YthodhcalknelcaaPFnMergedx8
namespace Go.Proofs.Ythodhcalknelcaa.PFnMerged
open Go.RowKit Go.Proofs.YthodhcalknelcaaW.PrintWords Go.Proofs.YthodhcalknelcaaW.PrintLast Go.Proofs.YthodhcalknelcaaW.PrintMore Go.Proofs.YthodhcalknelcaaGeo Go.Proofs.YthodhcalknelcaaHand Go.Proofs.YthodhcalknelcaaZ
attribute [local go_sem] max2_int min2_int max_two min_two max_three min_three max_four min_four   -- for this text's walks alone
set_option linter.unusedVariables false
set_option linter.unusedSimpArgs false

/-! ### spec_IsCover: function 64 -/
mutual
def spec_IsCover.j0 : Nat → Bool → Int → Int → ByteArray → Option (Bool)
 | 0, _, _, _, _ => none
 | k + 1, x24, x321000, x321001, x321002 => if x24 = true then (some false) else (spec_IsCover.l0 k 0 x321000 x321001 x321002)
def spec_IsCover.l0 : Nat → Int → Int → Int → ByteArray → Option (Bool)
 | 0, _, _, _, _ => none
 | k + 1, x3, x321000, x321001, x321002 => if x3 < (x321002.size : Int) then (if 0 ≤ x3 then (if (bt x321002 x3) < 97 then (some false) else (if (bt x321002 x3) > 122 then (some false) else (spec_IsCover.l0 k (wrap64 (x3 + 1)) x321000 x321001 x321002))) else (none)) else (some true)
end
def spec_IsCover.f (k : Nat) (a0_0 : Int) (a0_1 : Int) (a0_2 : ByteArray) : Option (Bool) := (spec_l1In.f a0_0 1 6).bind fun t321 => (if t321 = true then ((spec_l1In.f a0_1 1 6).bind fun t322 => (if t322 = true then (spec_IsCover.j0 k ((a0_2.size : Int) != (wrap64 (a0_0 * a0_1))) a0_0 a0_1 a0_2) else (spec_IsCover.j0 k true a0_0 a0_1 a0_2))) else (spec_IsCover.j0 k true a0_0 a0_1 a0_2))
theorem spec_IsCover.mono_l : ∀ k, (∀ y0 y1 y2 y3, LeO (spec_IsCover.j0 k y0 y1 y2 y3) (spec_IsCover.j0 (k + 1) y0 y1 y2 y3)) ∧ (∀ y0 y1 y2 y3, LeO (spec_IsCover.l0 k y0 y1 y2 y3) (spec_IsCover.l0 (k + 1) y0 y1 y2 y3))
 | 0 => ⟨fun _ _ _ _ r h => by simp [spec_IsCover.j0] at h, fun _ _ _ _ r h => by simp [spec_IsCover.l0] at h⟩
 | k + 1 => by
  obtain ⟨ih0, ih1⟩ := spec_IsCover.mono_l k; refine ⟨?_, ?_⟩
  ·intro y0 y1 y2 y3
   unfold spec_IsCover.j0
   repeat' first | (with_reducible first | exact ih0 _ _ _ _ | exact ih1 _ _ _ _ | exact LeO.refl _ | exact LeO.none _ | refine LeO.ite ?_ ?_ | refine LeO.bind ?_ (fun _ => ?_)) | exact ih0 _ _ _ _ | exact ih1 _ _ _ _ | exact LeO.none _ | refine LeO.ite ?_ ?_ | refine LeO.bind ?_ (fun _ => ?_)
  ·intro y0 y1 y2 y3
   unfold spec_IsCover.l0
   repeat' first | (with_reducible first | exact ih0 _ _ _ _ | exact ih1 _ _ _ _ | exact LeO.refl _ | exact LeO.none _ | refine LeO.ite ?_ ?_ | refine LeO.bind ?_ (fun _ => ?_)) | exact ih0 _ _ _ _ | exact ih1 _ _ _ _ | exact LeO.none _ | refine LeO.ite ?_ ?_ | refine LeO.bind ?_ (fun _ => ?_)
theorem spec_IsCover.mono : ∀ a0 a1 a2 k, LeO (spec_IsCover.f k a0 a1 a2) (spec_IsCover.f (k + 1) a0 a1 a2) := by
 intro a0 a1 a2 k; obtain ⟨ih0, ih1⟩ := spec_IsCover.mono_l k
 unfold spec_IsCover.f
 repeat' first | (with_reducible first | exact ih0 _ _ _ _ | exact ih1 _ _ _ _ | exact LeO.refl _ | exact LeO.none _ | refine LeO.ite ?_ ?_ | refine LeO.bind ?_ (fun _ => ?_)) | exact ih0 _ _ _ _ | exact ih1 _ _ _ _ | exact LeO.none _ | refine LeO.ite ?_ ?_ | refine LeO.bind ?_ (fun _ => ?_)
set_option maxHeartbeats 8000000 in
set_option maxRecDepth 100000 in
theorem spec_IsCover.calls (k : Nat) (a0_0 : Int) (a0_1 : Int) (a0_2 : ByteArray) (r : Bool) (w : World) (h : spec_IsCover.f k a0_0 a0_1 a0_2 = some r) :
  Calls Try.prog 64 #[.agg #[.int .i64 a0_0, .int .i64 a0_1, .string a0_2]] w fun e w' => e = .returned (.bool r) ∧ Below w.heap.size w w' := by
 have hu26 := Try.underlying26; have HB := Aside0.mk (Below.refl w.heap.size w); have H : ((spec_l1In.f a0_0 1 6).bind fun t321 => (if t321 = true then ((spec_l1In.f a0_1 1 6).bind fun t322 => (if t322 = true then (spec_IsCover.j0 k ((a0_2.size : Int) != (wrap64 (a0_0 * a0_1))) a0_0 a0_1 a0_2) else (spec_IsCover.j0 k true a0_0 a0_1 a0_2))) else (spec_IsCover.j0 k true a0_0 a0_1 a0_2))) = some r := h; clear h; have HC2 := Aside0.mk H; clear H
 go_enter Try.func64, Try.ntmps64
 go_upto_region 1 with (first | ((with_reducible refine gate_dst (N := 1) rfl ?_); (try (refine gate_guard (by rfl) ?_; dsimp only)); refine box_event ?hg (N := 1) ?hd (cs := #[.int .i64 a0_0, .int .i64 a0_1, .string a0_2]) (t := 26) ?hr ?_; (case hd => rfl); (case hg => rfl); (case hr => first | (go_simp; done) | (go_simp; rfl)); intro gb320 hg w3 hbox hb; have BK320 := Aside0.mk (hbox); have GW320 := Aside0.mk (gez HB hg); have GE320 := Aside0.mk (gez HB hg); replace HB := Aside0.mk (below_step bz hb); clear hb hbox hg))
 (try simp only [Act.put, List.setIfInBounds_toArray, List.set_cons_zero, List.set_cons_succ])
 go_cut [24] (fun v24 wc => ∃ (kq : Nat) (x24_1 : Bool), v24 = .bool x24_1 ∧ Aside0 (spec_IsCover.j0 kq x24_1 a0_0 a0_1 a0_2 = some r) ∧ Aside0 (kq ≤ k) ∧ Aside0 (wc.heap[gb320]? = some (.cells #[.int .i64 a0_0, .int .i64 a0_1, .string a0_2] 26 (0, 0))) ∧ Aside0 (Below w.heap.size w wc))
 case first =>
  have H := HC2.out; clear HC2; replace H := Option.bind_eq_some_iff.mp H; obtain ⟨t321, A40, H⟩ := H; have A4 := Aside0.mk A40; clear A40
  by_cases c5 : t321 = true
  ·subst c5; replace H := ift H; replace H := Option.bind_eq_some_iff.mp H; obtain ⟨t322, A60, H⟩ := H; have A6 := Aside0.mk A60; clear A60
   by_cases c7 : t322 = true
   ·subst c7; replace H := ift H; have H' := Aside0.mk H; clear H; obtain ⟨hcz8_0, hcz8_1, hcz8_2, hfz8_0, hfz8_1, hfz8_2⟩ := cells3 BK320; go_wp2_with (first | ((with_reducible refine gt (some 6) rfl ?_); refine gc Try.func87 (spec_l1In.calls a0_0 1 6 true _ A4.out) ?_; rintro e w' ⟨rfl, ⟨nd, rfl⟩⟩; refine ⟨_, rfl, ?_⟩) | (go_at_call 87; (with_reducible refine (spec_l1In.calls a0_1 1 6 true _ A6.out).mono ?_); rintro e w' ⟨rfl, ⟨nd, rfl⟩⟩))
    go_meet
    case rel => exact ⟨_, (((a0_2.size : Int) != (wrap64 (a0_0 * a0_1)))), rz, H', ⟨qz⟩, ⟨kz BK320⟩, ⟨bzs⟩⟩
   ·replace c7 := Bool.eq_false_iff.mpr c7; subst c7; replace H := iff_ H; have H' := Aside0.mk H; clear H; obtain ⟨hcz9_0, hcz9_1, hcz9_2, hfz9_0, hfz9_1, hfz9_2⟩ := cells3 BK320; go_wp2_with (first | ((with_reducible refine gt (some 6) rfl ?_); refine gc Try.func87 (spec_l1In.calls a0_0 1 6 true _ A4.out) ?_; rintro e w' ⟨rfl, ⟨nd, rfl⟩⟩; refine ⟨_, rfl, ?_⟩) | (go_at_call 87; (with_reducible refine (spec_l1In.calls a0_1 1 6 false _ A6.out).mono ?_); rintro e w' ⟨rfl, ⟨nd, rfl⟩⟩))
    go_meet
    case rel => exact ⟨_, (true), rz, H', ⟨qz⟩, ⟨kz BK320⟩, ⟨bzs⟩⟩
  ·replace c5 := Bool.eq_false_iff.mpr c5; subst c5; replace H := iff_ H; have H' := Aside0.mk H; clear H; obtain ⟨hcz10_0, hcz10_1, hcz10_2, hfz10_0, hfz10_1, hfz10_2⟩ := cells3 BK320; go_wp2_with (first | ((with_reducible refine gt (some 6) rfl ?_); refine gc Try.func87 (spec_l1In.calls a0_0 1 6 false _ A4.out) ?_; rintro e w' ⟨rfl, ⟨nd, rfl⟩⟩; refine ⟨_, rfl, ?_⟩))
   go_meet
   case rel => exact ⟨_, (true), rz, H', ⟨qz⟩, ⟨kz BK320⟩, ⟨bzs⟩⟩
 case rest =>
  clear HC2; (try clear p2); (try clear c5); (try clear c6); (try clear p6); (try clear c7); (try clear c8); (try clear hcz10_0); (try clear hcz10_1); (try clear hcz10_2); (try clear hcz8_0); (try clear hcz8_1); (try clear hcz8_2); (try clear hcz9_0); (try clear hcz9_1); (try clear hcz9_2); (try clear hfz10_0); (try clear hfz10_1); (try clear hfz10_2); (try clear hfz8_0); (try clear hfz8_1); (try clear hfz8_2); (try clear hfz9_0); (try clear hfz9_1); (try clear hfz9_2); obtain ⟨kq, x24_1, rfl, HA, HJ1, BK320, HB⟩ := hcut
  cases kq with
  | zero => exact absurd HA.out (by simp [spec_IsCover.j0])
  | succ kj1 =>
   have H := HA.out; clear HA; simp only [spec_IsCover.j0] at H
   by_cases c11 : x24_1 = true
   ·subst c11; replace H := ift H; obtain rfl := Option.some.inj H; go_wp2; go_ret
    exact ⟨ez, bzs⟩
   ·replace c11 := Bool.eq_false_iff.mpr c11; subst c11; replace H := iff_ H; have H' := Aside0.mk H; clear H; go_wp2; (try simp only [Act.put, List.setIfInBounds_toArray, List.set_cons_zero, List.set_cons_succ])
    go_loopg [3] kj1 (fun kq v3 w' => ∃ (x3_2 : Int), v3 = .int .i64 x3_2 ∧ Aside0 (spec_IsCover.l0 kq x3_2 a0_0 a0_1 a0_2 = some r) ∧ Aside0 (kq ≤ kj1) ∧ Aside0 (w'.heap[gb320]? = some (.cells #[.int .i64 a0_0, .int .i64 a0_1, .string a0_2] 26 (0, 0))) ∧ Aside0 (Below w.heap.size w w'))
    case atStart => exact ⟨(0), rz, H', ⟨Nat.le_refl _⟩, ⟨kz BK320⟩, ⟨bzs⟩⟩
    case round =>
     clear H'; (try clear c1); (try clear p2); (try clear c5); (try clear c6); (try clear p6); (try clear c7); (try clear c8); (try clear c11); (try clear hcz10_0); (try clear hcz10_1); (try clear hcz10_2); (try clear hcz8_0); (try clear hcz8_1); (try clear hcz8_2); (try clear hcz9_0); (try clear hcz9_1); (try clear hcz9_2); (try clear hfz10_0); (try clear hfz10_1); (try clear hfz10_2); (try clear hfz8_0); (try clear hfz8_1); (try clear hfz8_2); (try clear hfz9_0); (try clear hfz9_1); (try clear hfz9_2); (try clear p2); (try clear p6); obtain ⟨x3_2, rfl, HA, HK2, BK320, HB⟩ := hrel
     cases gk with
     | zero => exact absurd HA.out (by simp [spec_IsCover.l0])
     | succ k2 =>
      have H := HA.out; clear HA; simp only [spec_IsCover.l0] at H
      by_cases c12 : x3_2 < (a0_2.size : Int)
      ·rw [if_pos c12] at H; have c12b0 := decide_eq_true c12; clear c12
       by_cases c13 : 0 ≤ x3_2
       ·rw [if_pos c13] at H; have c13b0 := decide_eq_true c13; clear c13
        by_cases c15 : (bt a0_2 x3_2) < 97
        ·rw [if_pos c15] at H; have c15b0 := decide_eq_true c15; clear c15; obtain rfl := Option.some.inj H; obtain ⟨hcz16_0, hcz16_1, hcz16_2, hfz16_0, hfz16_1, hfz16_2⟩ := cells3 BK320; have p14 : 0 ≤ (x3_2 : Int) := of_decide_eq_true az; have q14 : x3_2 < (a0_2.size : Int) := of_decide_eq_true az; have hx14 := bt_at a0_2 x3_2; replace p14 := eq_true p14; replace q14 := eq_true q14; go_wp2; go_ret
         exact ⟨ez, bzs⟩
        ·rw [if_neg c15] at H; have c15b0 := decide_eq_false c15; clear c15
         by_cases c18 : (bt a0_2 x3_2) > 122
         ·rw [if_pos c18] at H; have c18b0 := decide_eq_true c18; clear c18; obtain rfl := Option.some.inj H; obtain ⟨hcz19_0, hcz19_1, hcz19_2, hfz19_0, hfz19_1, hfz19_2⟩ := cells3 BK320; have p14 : 0 ≤ (x3_2 : Int) := of_decide_eq_true az; have q14 : x3_2 < (a0_2.size : Int) := of_decide_eq_true az; have hx14 := bt_at a0_2 x3_2; replace p14 := eq_true p14; replace q14 := eq_true q14; have p17 : 0 ≤ (x3_2 : Int) := of_decide_eq_true az; have q17 : x3_2 < (a0_2.size : Int) := of_decide_eq_true az; have hx17 := bt_at a0_2 x3_2; replace p17 := eq_true p17; replace q17 := eq_true q17; go_wp2; go_ret
          exact ⟨ez, bzs⟩
         ·rw [if_neg c18] at H; have c18b0 := decide_eq_false c18; clear c18; have H' := Aside0.mk H; clear H; obtain ⟨hcz20_0, hcz20_1, hcz20_2, hfz20_0, hfz20_1, hfz20_2⟩ := cells3 BK320; have p14 : 0 ≤ (x3_2 : Int) := of_decide_eq_true az; have q14 : x3_2 < (a0_2.size : Int) := of_decide_eq_true az; have hx14 := bt_at a0_2 x3_2; replace p14 := eq_true p14; replace q14 := eq_true q14; have p17 : 0 ≤ (x3_2 : Int) := of_decide_eq_true az; have q17 : x3_2 < (a0_2.size : Int) := of_decide_eq_true az; have hx17 := bt_at a0_2 x3_2; replace p17 := eq_true p17; replace q17 := eq_true q17; go_wp2
          go_roundg k2
          case measure => have := HJ1.out; have := HK2.out; omega
          case rel => exact ⟨(wrap64 (x3_2 + 1)), rz, H', ⟨by have := HJ1.out; have := HK2.out; omega⟩, ⟨kz BK320⟩, ⟨bzs⟩⟩
       ·rw [if_neg c13] at H
        exact absurd H (by simp)
      ·rw [if_neg c12] at H; have c12b0 := decide_eq_false c12; clear c12; obtain rfl := Option.some.inj H; obtain ⟨hcz21_0, hcz21_1, hcz21_2, hfz21_0, hfz21_1, hfz21_2⟩ := cells3 BK320; go_wp2; go_ret
       exact ⟨ez, bzs⟩

/-! ### spec_l15Next: function 88 -/
def spec_l15Next.f (a0_0 : Int) (a0_1 : Int) (a0_2 : ByteArray) (a1 : Int) (a2 : Int) : Option (Bool) := if a1 > a2 then (if a1 = (wrap64 (a2 + a0_0)) then (some true) else (if a1 = (wrap64 (a2 + 1)) then (if a0_0 = 0 then (none) else (some ((Int.tmod a1 a0_0) != 0))) else (some false))) else (if a2 = (wrap64 (a1 + a0_0)) then (some true) else (if a2 = (wrap64 (a1 + 1)) then (if a0_0 = 0 then (none) else (some ((Int.tmod a2 a0_0) != 0))) else (some false)))
set_option maxHeartbeats 8000000 in
set_option maxRecDepth 100000 in
theorem spec_l15Next.calls (a0_0 : Int) (a0_1 : Int) (a0_2 : ByteArray) (a1 : Int) (a2 : Int) (r : Bool) (w : World) (h : spec_l15Next.f a0_0 a0_1 a0_2 a1 a2 = some r) :
  Calls Try.prog 88 #[.agg #[.int .i64 a0_0, .int .i64 a0_1, .string a0_2], .int .i64 a1, .int .i64 a2] w fun e w' => e = .returned (.bool r) ∧ Below w.heap.size w w' := by
 have hu26 := Try.underlying26; have HB := Aside0.mk (Below.refl w.heap.size w); have H : (if a1 > a2 then (if a1 = (wrap64 (a2 + a0_0)) then (some true) else (if a1 = (wrap64 (a2 + 1)) then (if a0_0 = 0 then (none) else (some ((Int.tmod a1 a0_0) != 0))) else (some false))) else (if a2 = (wrap64 (a1 + a0_0)) then (some true) else (if a2 = (wrap64 (a1 + 1)) then (if a0_0 = 0 then (none) else (some ((Int.tmod a2 a0_0) != 0))) else (some false)))) = some r := h; clear h
 by_cases c4 : a1 > a2
 ·rw [if_pos c4] at H; have c4b0 := decide_eq_true c4; clear c4
  by_cases c5 : a1 = (wrap64 (a2 + a0_0))
  ·rw [if_pos c5] at H; have c5b0 : (a1 == (wrap64 (a2 + a0_0))) = true := beq_iff_eq.mpr c5; have c5b1 : (a1 != (wrap64 (a2 + a0_0))) = false := bne_eq_false_iff_eq.mpr c5; clear c5; obtain rfl := Option.some.inj H
   go_enter Try.func88, Try.ntmps88; go_wp2_with (first | ((with_reducible refine gt (some 3) rfl ?_); refine bx #[.int .i64 a0_0, .int .i64 a0_1, .string a0_2] 26 ?_; intro gb323 hg w6 hbox hb; have BK323 := Aside0.mk (hbox); have GW323 := Aside0.mk (gez HB hg); have GE323 := Aside0.mk (gez HB hg); replace HB := Aside0.mk (below_step bz hb); clear hb hbox hg; obtain ⟨hcz7_0, hcz7_1, hcz7_2, hfz7_0, hfz7_1, hfz7_2⟩ := cells3 BK323)); go_ret
   exact ⟨ez, bzs⟩
  ·rw [if_neg c5] at H; have c5b0 : (a1 == (wrap64 (a2 + a0_0))) = false := beq_eq_false_iff_ne.mpr c5; have c5b1 : (a1 != (wrap64 (a2 + a0_0))) = true := bne_iff_ne.mpr c5
   by_cases c8 : a1 = (wrap64 (a2 + 1))
   ·rw [if_pos c8] at H; have c8b0 : (a1 == (wrap64 (a2 + 1))) = true := beq_iff_eq.mpr c8; have c8b1 : (a1 != (wrap64 (a2 + 1))) = false := bne_eq_false_iff_eq.mpr c8; clear c8
    by_cases c9 : a0_0 = 0
    ·rw [if_pos c9] at H
     exact absurd H (by simp)
    ·rw [if_neg c9] at H; have c9b0 : (a0_0 == 0) = false := beq_eq_false_iff_ne.mpr c9; have c9b1 : (a0_0 != 0) = true := bne_iff_ne.mpr c9; obtain rfl := Option.some.inj H
     go_enter Try.func88, Try.ntmps88; go_wp2_with (first | ((with_reducible refine gt (some 3) rfl ?_); refine bx #[.int .i64 a0_0, .int .i64 a0_1, .string a0_2] 26 ?_; intro gb323 hg w10 hbox hb; have BK323 := Aside0.mk (hbox); have GW323 := Aside0.mk (gez HB hg); have GE323 := Aside0.mk (gez HB hg); replace HB := Aside0.mk (below_step bz hb); clear hb hbox hg; obtain ⟨hcz11_0, hcz11_1, hcz11_2, hfz11_0, hfz11_1, hfz11_2⟩ := cells3 BK323)); go_ret
     exact ⟨ez, bzs⟩
   ·rw [if_neg c8] at H; have c8b0 : (a1 == (wrap64 (a2 + 1))) = false := beq_eq_false_iff_ne.mpr c8; have c8b1 : (a1 != (wrap64 (a2 + 1))) = true := bne_iff_ne.mpr c8; obtain rfl := Option.some.inj H
    go_enter Try.func88, Try.ntmps88; go_wp2_with (first | ((with_reducible refine gt (some 3) rfl ?_); refine bx #[.int .i64 a0_0, .int .i64 a0_1, .string a0_2] 26 ?_; intro gb323 hg w12 hbox hb; have BK323 := Aside0.mk (hbox); have GW323 := Aside0.mk (gez HB hg); have GE323 := Aside0.mk (gez HB hg); replace HB := Aside0.mk (below_step bz hb); clear hb hbox hg; obtain ⟨hcz13_0, hcz13_1, hcz13_2, hfz13_0, hfz13_1, hfz13_2⟩ := cells3 BK323)); go_ret
    exact ⟨ez, bzs⟩
 ·rw [if_neg c4] at H; have c4b0 := decide_eq_false c4; clear c4
  by_cases c14 : a2 = (wrap64 (a1 + a0_0))
  ·rw [if_pos c14] at H; have c14b0 : (a2 == (wrap64 (a1 + a0_0))) = true := beq_iff_eq.mpr c14; have c14b1 : (a2 != (wrap64 (a1 + a0_0))) = false := bne_eq_false_iff_eq.mpr c14; clear c14; obtain rfl := Option.some.inj H
   go_enter Try.func88, Try.ntmps88; go_wp2_with (first | ((with_reducible refine gt (some 3) rfl ?_); refine bx #[.int .i64 a0_0, .int .i64 a0_1, .string a0_2] 26 ?_; intro gb323 hg w15 hbox hb; have BK323 := Aside0.mk (hbox); have GW323 := Aside0.mk (gez HB hg); have GE323 := Aside0.mk (gez HB hg); replace HB := Aside0.mk (below_step bz hb); clear hb hbox hg; obtain ⟨hcz16_0, hcz16_1, hcz16_2, hfz16_0, hfz16_1, hfz16_2⟩ := cells3 BK323)); go_ret
   exact ⟨ez, bzs⟩
  ·rw [if_neg c14] at H; have c14b0 : (a2 == (wrap64 (a1 + a0_0))) = false := beq_eq_false_iff_ne.mpr c14; have c14b1 : (a2 != (wrap64 (a1 + a0_0))) = true := bne_iff_ne.mpr c14
   by_cases c17 : a2 = (wrap64 (a1 + 1))
   ·rw [if_pos c17] at H; have c17b0 : (a2 == (wrap64 (a1 + 1))) = true := beq_iff_eq.mpr c17; have c17b1 : (a2 != (wrap64 (a1 + 1))) = false := bne_eq_false_iff_eq.mpr c17; clear c17
    by_cases c18 : a0_0 = 0
    ·rw [if_pos c18] at H
     exact absurd H (by simp)
    ·rw [if_neg c18] at H; have c18b0 : (a0_0 == 0) = false := beq_eq_false_iff_ne.mpr c18; have c18b1 : (a0_0 != 0) = true := bne_iff_ne.mpr c18; obtain rfl := Option.some.inj H
     go_enter Try.func88, Try.ntmps88; go_wp2_with (first | ((with_reducible refine gt (some 3) rfl ?_); refine bx #[.int .i64 a0_0, .int .i64 a0_1, .string a0_2] 26 ?_; intro gb323 hg w19 hbox hb; have BK323 := Aside0.mk (hbox); have GW323 := Aside0.mk (gez HB hg); have GE323 := Aside0.mk (gez HB hg); replace HB := Aside0.mk (below_step bz hb); clear hb hbox hg; obtain ⟨hcz20_0, hcz20_1, hcz20_2, hfz20_0, hfz20_1, hfz20_2⟩ := cells3 BK323)); go_ret
     exact ⟨ez, bzs⟩
   ·rw [if_neg c17] at H; have c17b0 : (a2 == (wrap64 (a1 + 1))) = false := beq_eq_false_iff_ne.mpr c17; have c17b1 : (a2 != (wrap64 (a1 + 1))) = true := bne_iff_ne.mpr c17; obtain rfl := Option.some.inj H
    go_enter Try.func88, Try.ntmps88; go_wp2_with (first | ((with_reducible refine gt (some 3) rfl ?_); refine bx #[.int .i64 a0_0, .int .i64 a0_1, .string a0_2] 26 ?_; intro gb323 hg w21 hbox hb; have BK323 := Aside0.mk (hbox); have GW323 := Aside0.mk (gez HB hg); have GE323 := Aside0.mk (gez HB hg); replace HB := Aside0.mk (below_step bz hb); clear hb hbox hg; obtain ⟨hcz22_0, hcz22_1, hcz22_2, hfz22_0, hfz22_1, hfz22_2⟩ := cells3 BK323)); go_ret
    exact ⟨ez, bzs⟩

end Go.Proofs.Ythodhcalknelcaa.PFnMerged
