-- Written by a program of this session's: the kit's print, turned (turnprint.py): functions, and that Go comes to just their answers.
import Derived.Test.YthodhcalknelcaaZ
import Derived.Test.YthodhcalknelcaaPFnMergedx0
import Derived.Test.YthodhcalknelcaaPFnMergedx3
import Derived.Test.YthodhcalknelcaaPFnMergedx4
namespace Go.Proofs.Ythodhcalknelcaa.PFnMerged
open Go.RowKit Go.Proofs.YthodhcalknelcaaW.PrintWords Go.Proofs.YthodhcalknelcaaW.PrintLast Go.Proofs.YthodhcalknelcaaW.PrintMore Go.Proofs.YthodhcalknelcaaGeo Go.Proofs.YthodhcalknelcaaHand Go.Proofs.YthodhcalknelcaaZ
attribute [local go_sem] max2_int min2_int max_two min_two max_three min_three max_four min_four   -- for this text's walks alone
set_option linter.unusedVariables false
set_option linter.unusedSimpArgs false

/-! ### impl_RegionsOf: function 29 -/
def impl_RegionsOf.l0 : Nat → List Int → List Int → Int → Int → Option (List Int)
 | 0, _, _, _, _ => none
 | k + 1, x3, x8, x9, x10 => if x10 < x9 then (if 0 ≤ x10 then (if x10 < (x8.length : Int) then (if (rd x8 x10) = x10 then (if x3.length < 17592186044416 then (impl_RegionsOf.l0 k (x3 ++ [rd x8 x10]) x8 x9 (wrap64 (x10 + 1))) else (none)) else (impl_RegionsOf.l0 k x3 x8 x9 (wrap64 (x10 + 1)))) else (none)) else (none)) else (some x3)
def impl_RegionsOf.f (k : Nat) (a0_0 : Int) (a0_1 : Int) (a0_2 : ByteArray) : Option (List Int) := (impl_regions.f k a0_0 a0_1 a0_2).bind fun t155 => (impl_RegionsOf.l0 k (([] : List Int)) t155 (t155.length : Int) 0)
theorem impl_RegionsOf.mono_l : ∀ k, (∀ y0 y1 y2 y3, LeO (impl_RegionsOf.l0 k y0 y1 y2 y3) (impl_RegionsOf.l0 (k + 1) y0 y1 y2 y3))
 | 0 => fun _ _ _ _ r h => by simp [impl_RegionsOf.l0] at h
 | k + 1 => by
  have ih0 := impl_RegionsOf.mono_l k
  ·intro y0 y1 y2 y3
   unfold impl_RegionsOf.l0
   repeat' first | (with_reducible first | exact ih0 _ _ _ _ | exact impl_regions.mono _ _ _ _ | exact LeO.refl _ | exact LeO.none _ | refine LeO.ite ?_ ?_ | refine LeO.bind ?_ (fun _ => ?_)) | exact ih0 _ _ _ _ | exact impl_regions.mono _ _ _ _ | exact LeO.none _ | refine LeO.ite ?_ ?_ | refine LeO.bind ?_ (fun _ => ?_)
theorem impl_RegionsOf.mono : ∀ a0 a1 a2 k, LeO (impl_RegionsOf.f k a0 a1 a2) (impl_RegionsOf.f (k + 1) a0 a1 a2) := by
 intro a0 a1 a2 k; have ih0 := impl_RegionsOf.mono_l k
 unfold impl_RegionsOf.f
 repeat' first | (with_reducible first | exact ih0 _ _ _ _ | exact impl_regions.mono _ _ _ _ | exact LeO.refl _ | exact LeO.none _ | refine LeO.ite ?_ ?_ | refine LeO.bind ?_ (fun _ => ?_)) | exact ih0 _ _ _ _ | exact impl_regions.mono _ _ _ _ | exact LeO.none _ | refine LeO.ite ?_ ?_ | refine LeO.bind ?_ (fun _ => ?_)
set_option maxHeartbeats 8000000 in
set_option maxRecDepth 100000 in
theorem impl_RegionsOf.calls (k : Nat) (a0_0 : Int) (a0_1 : Int) (a0_2 : ByteArray) (r : List Int) (w : World) (h : impl_RegionsOf.f k a0_0 a0_1 a0_2 = some r) :
  Calls Try.prog 29 #[.agg #[.int .i64 a0_0, .int .i64 a0_1, .string a0_2]] w fun e w' => ∃ v0_ : Value, e = .returned (v0_) ∧ Kd.R (Kd.int .i64) 3 w' w.heap.size (fun _ => True) v0_ r ∧ Below w.heap.size w w' := by
 have hu26 := Try.underlying26; have HB := Aside0.mk (Below.refl w.heap.size w); have H : ((impl_regions.f k a0_0 a0_1 a0_2).bind fun t155 => (impl_RegionsOf.l0 k (([] : List Int)) t155 (t155.length : Int) 0)) = some r := h; clear h; obtain ⟨y152, hy152⟩ : ∃ y_ : List Int, y_ = (([] : List Int)) := ⟨_, rfl⟩
 replace H : ((impl_regions.f k a0_0 a0_1 a0_2).bind fun t155 => (impl_RegionsOf.l0 k y152 t155 (t155.length : Int) 0)) = some r := by first | (rw [hy152]; with_reducible exact H) | (have H2_ := (Option.bind_some _ _).symm.trans H; rw [hy152]; with_reducible exact H2_) | (have H2_ := (Option.bind_some _ _).symm.trans H; with_reducible exact H2_) | with_reducible exact H | (rw [hy152]; exact H) | exact H
 have Ny152 := Aside0.mk hy152; clear hy152; replace H := Option.bind_eq_some_iff.mp H; obtain ⟨t155, A20, H⟩ := H; have A2 := Aside0.mk A20; clear A20; have H' := Aside0.mk H; clear H
 go_enter Try.func29, Try.ntmps29; go_wp2_with (first | ((with_reducible refine gt (some 1) rfl ?_); refine bx #[.int .i64 a0_0, .int .i64 a0_1, .string a0_2] 26 ?_; intro gb151 hg w3 hbox hb; have BK151 := Aside0.mk (hbox); have GW151 := Aside0.mk (gez HB hg); have GE151 := Aside0.mk (gez HB hg); replace HB := Aside0.mk (below_step bz hb); clear hb hbox hg) | ((with_reducible refine gate_dst (N := 6) rfl ?_); refine Kd.R_lit (Kd.int .i64) _ 3 ?hg (N := 6) ?hd (xs := ([] : List Int)) (inner := []) (ok := fun _ => True) (okp := fun _ => True) ?hr ?hp (fun _ hk => hk) trivial (Below.refl _ _) (Nat.le_refl _) (by simp) ?_; (case hd => rfl); (case hg => rfl); (case hr => first | (go_simp; done) | (go_simp; rfl)); (case hp => exact (Reps.none _ _)); intro v153 w4 ho5 hb hg_ hnew_; clear hg_ hnew_; (first | rw [← Ny152.out] at ho5 | (simp only [Int.reduceToNat] at ho5; rw [← Ny152.out] at ho5)); have HO154 := Aside0.mk (Kd.R_lower ho5 (below_size bzs)); replace BK151 := Aside0.mk (bbz BK151 hb); replace HB := Aside0.mk (below_step bzs hb); clear hb ho5; obtain ⟨hcz6_0, hcz6_1, hcz6_2, hfz6_0, hfz6_1, hfz6_2⟩ := cells3 BK151) | ((with_reducible refine gt (some 8) rfl ?_); refine gc Try.func66 (impl_regions.calls k a0_0 a0_1 a0_2 t155 _ A2.out) ?_; rintro e w7 ⟨v156, rfl, ho0, hb⟩; refine ⟨_, rfl, ?_⟩; have HO157 := Aside0.mk (Kd.R_lower (Kd.R_new' ho0 (Kd.R_lt (hr HO154.out))) (below_size bzs)); replace HO154 := Aside0.mk (Kd.R_elder' (hr HO154.out) (Kd.R_base ho0) hb); replace BK151 := Aside0.mk (bbz BK151 hb); replace HB := Aside0.mk (below_step bzs hb); (try clear hb); (try clear ho0); obtain ⟨Ao8, co8, eo8⟩ := Kd.R_slice HO157.out; subst eo8))
 (try simp only [Act.put, List.setIfInBounds_toArray, List.set_cons_zero, List.set_cons_succ])
 go_loopg [3, 10] k (fun kq v3 v10 w' => ∃ (x3_1 : List Int) (x10_1 : Int), v10 = .int .i64 x10_1 ∧ Aside0 (impl_RegionsOf.l0 kq x3_1 t155 (t155.length : Int) x10_1 = some r) ∧ Aside0 (kq ≤ k) ∧ Aside0 (Kd.R (Kd.int .i64) 3 w' w.heap.size (fun k_ => some k_ ≠ ((.slice Ao8 t155.length co8) : Value).ownBlock) v3 x3_1) ∧ Aside0 (Kd.R (Kd.int .i64) 3 w' w.heap.size (fun k_ => some k_ ≠ (v3 : Value).ownBlock) (.slice Ao8 t155.length co8) t155) ∧ Aside0 (w'.heap[gb151]? = some (.cells #[.int .i64 a0_0, .int .i64 a0_1, .string a0_2] 26 (0, 0))) ∧ Aside0 (Below w.heap.size w w'))
 case atStart => exact ⟨(y152), (0), rz, H', ⟨Nat.le_refl _⟩, ⟨hr (Kd.R_mono HO154.out (fun _ hk => hk.2))⟩, ⟨hr (Kd.R_mono HO157.out (fun _ hk => hk.2))⟩, ⟨kz BK151⟩, ⟨bzs⟩⟩
 case round =>
  clear H'; (try clear c2); (try clear p2); (try clear c6); (try clear hcz6_0); (try clear hcz6_1); (try clear hcz6_2); (try clear hfz6_0); (try clear hfz6_1); (try clear hfz6_2); obtain ⟨x3_1, x10_1, rfl, HA, HK1, HO_3, HO_8, BK151, HB⟩ := hrel
  cases gk with
  | zero => exact absurd HA.out (by simp [impl_RegionsOf.l0])
  | succ k1 =>
   have H := HA.out; clear HA; simp only [impl_RegionsOf.l0] at H
   by_cases c9 : x10_1 < (t155.length : Int)
   ·rw [if_pos c9] at H; have c9b0 := decide_eq_true c9; clear c9
    by_cases c10 : 0 ≤ x10_1
    ·rw [if_pos c10] at H; have c10b0 := decide_eq_true c10; clear c10
     by_cases c11 : x10_1 < (t155.length : Int)
     ·rw [if_pos c11] at H; have c11b0 := decide_eq_true c11; clear c11
      by_cases c12 : (rd t155 x10_1) = x10_1
      ·rw [if_pos c12] at H; have c12b0 : ((rd t155 x10_1) == x10_1) = true := beq_iff_eq.mpr c12; have c12b1 : ((rd t155 x10_1) != x10_1) = false := bne_eq_false_iff_eq.mpr c12; clear c12
       by_cases c13 : x3_1.length < 17592186044416
       ·rw [if_pos c13] at H; have LMc13 := Aside0.mk c13; clear c13; obtain ⟨y159, hy159⟩ : ∃ y_ : List Int, y_ = (x3_1 ++ [rd t155 x10_1]) := ⟨_, rfl⟩
        replace H : (impl_RegionsOf.l0 k1 y159 t155 (t155.length : Int) (wrap64 (x10_1 + 1))) = some r := by first | (rw [hy159]; with_reducible exact H) | (have H2_ := (Option.bind_some _ _).symm.trans H; rw [hy159]; with_reducible exact H2_) | (have H2_ := (Option.bind_some _ _).symm.trans H; with_reducible exact H2_) | with_reducible exact H | (rw [hy159]; exact H) | exact H
        have Ny159 := Aside0.mk hy159; clear hy159; have H' := Aside0.mk H; clear H; have p158 : 0 ≤ (x10_1 : Int) := of_decide_eq_true az; have q158 : x10_1 < (t155.length : Int) := of_decide_eq_true az; obtain ⟨ad158, e158, hx158_0⟩ := Kd.at_int (Kd.R_reads' HO_8.out).2.2 x10_1 p158 q158
        cases e158
        replace p158 := eq_true p158; replace q158 := eq_true q158; go_wp2_with (first | ((with_reducible refine gate_builtin (b := .append) (xs := #[.tmp 18, .tmp 20]) rfl ?_); at_builtin; refine Kd.R_append (Kd.int .i64) (w0 := w) w.heap.size rfl (.tmp 18) (.tmp 20) 29 3 (.int .i64 0) 8 rfl Try.underlying29 info3 rfl (by decide) (by omega) u3 x3_1 (rd t155 x10_1) [.int .i64 (rd t155 x10_1)] (fun k_ => some k_ ≠ (.slice (some ad158) t155.length co8 : Value).ownBlock) (fun _ => False) rfl rfl ?aP (fun _ hk => hk.elim) ?aF ?aO ?aB ?aS ?aL ?_; (case aP => exact rfl); (case aB => exact bzs); (case aF => exact (fun k_ hk => Kd.fresh' (Kd.R_lt (hr HO_8.out)) k_ hk)); (case aO => exact (hr HO_3.out)); (case aS => exact (below_size bzs)); (case aL => have := LMc13.out; omega); intro v160 w14 ho hb hg hat; rw [← Ny159.out] at ho; have n0_ := Aside0.mk (Kd.R_after (ok := (fun _ => True)) (Kd.R_mono (hr HO_8.out) (fun _ hk => And.intro trivial hk)) hg hat); have n1_ := Aside0.mk (blk_grown (g := gb151) (o := .cells #[.int .i64 a0_0, .int .i64 a0_1, .string a0_2] 26 (0, 0)) (kz BK151) hg (Kd.R_ne HO_3.out BK151.out (by decide))); have n2_ := Aside0.mk (hb); have n3_ := Aside0.mk (ho); clear HO_8; clear BK151; clear HB; clear HO_3; have HO_8 := n0_; have BK151 := n1_; have HB := n2_; have HO161 := n3_; clear n0_ n1_ n2_ n3_; clear ho hb hg hat))
        go_roundg k1
        case measure => have := HK1.out; omega
        case rel => exact ⟨(y159), (wrap64 (x10_1 + 1)), rz, H', ⟨by have := HK1.out; omega⟩, ⟨hr HO161.out⟩, ⟨hr (Kd.R_mono HO_8.out (fun _ hk => hk.2))⟩, ⟨kz BK151⟩, ⟨bzs⟩⟩
       ·rw [if_neg c13] at H
        exact absurd H (by simp)
      ·rw [if_neg c12] at H; have c12b0 : ((rd t155 x10_1) == x10_1) = false := beq_eq_false_iff_ne.mpr c12; have c12b1 : ((rd t155 x10_1) != x10_1) = true := bne_iff_ne.mpr c12; have H' := Aside0.mk H; clear H; have p158 : 0 ≤ (x10_1 : Int) := of_decide_eq_true az; have q158 : x10_1 < (t155.length : Int) := of_decide_eq_true az; obtain ⟨ad158, e158, hx158_0⟩ := Kd.at_int (Kd.R_reads' HO_8.out).2.2 x10_1 p158 q158
       cases e158
       replace p158 := eq_true p158; replace q158 := eq_true q158; go_wp2
       go_roundg k1
       case measure => have := HK1.out; omega
       case rel => exact ⟨(x3_1), (wrap64 (x10_1 + 1)), rz, H', ⟨by have := HK1.out; omega⟩, ⟨hr HO_3.out⟩, ⟨hr HO_8.out⟩, ⟨kz BK151⟩, ⟨bzs⟩⟩
     ·rw [if_neg c11] at H
      exact absurd H (by simp)
    ·rw [if_neg c10] at H
     exact absurd H (by simp)
   ·rw [if_neg c9] at H; have c9b0 := decide_eq_false c9; clear c9; obtain rfl := Option.some.inj H; go_wp2; go_ret
    exact ⟨_, ez, hr (Kd.R_mono HO_3.out (fun _ hk => trivial)), bzs⟩

/-! ### impl_RegionCells: function 24 -/
def impl_RegionCells.l0 : Nat → Int → List Int → List Int → Int → Int → Option (List Int)
 | 0, _, _, _, _, _ => none
 | k + 1, x1, x5, x10, x11, x12 => if x12 < x11 then (if 0 ≤ x12 then (if x12 < (x10.length : Int) then (if (rd x10 x12) = x1 then (if x5.length < 17592186044416 then (impl_RegionCells.l0 k x1 (x5 ++ [x12]) x10 x11 (wrap64 (x12 + 1))) else (none)) else (impl_RegionCells.l0 k x1 x5 x10 x11 (wrap64 (x12 + 1)))) else (none)) else (none)) else (some x5)
def impl_RegionCells.f (k : Nat) (a0_0 : Int) (a0_1 : Int) (a0_2 : ByteArray) (a1 : Int) : Option (List Int) := (impl_regions.f k a0_0 a0_1 a0_2).bind fun t166 => (impl_RegionCells.l0 k a1 (([] : List Int)) t166 (t166.length : Int) 0)
theorem impl_RegionCells.mono_l : ∀ k, (∀ y0 y1 y2 y3 y4, LeO (impl_RegionCells.l0 k y0 y1 y2 y3 y4) (impl_RegionCells.l0 (k + 1) y0 y1 y2 y3 y4))
 | 0 => fun _ _ _ _ _ r h => by simp [impl_RegionCells.l0] at h
 | k + 1 => by
  have ih0 := impl_RegionCells.mono_l k
  ·intro y0 y1 y2 y3 y4
   unfold impl_RegionCells.l0
   repeat' first | (with_reducible first | exact ih0 _ _ _ _ _ | exact impl_regions.mono _ _ _ _ | exact LeO.refl _ | exact LeO.none _ | refine LeO.ite ?_ ?_ | refine LeO.bind ?_ (fun _ => ?_)) | exact ih0 _ _ _ _ _ | exact impl_regions.mono _ _ _ _ | exact LeO.none _ | refine LeO.ite ?_ ?_ | refine LeO.bind ?_ (fun _ => ?_)
theorem impl_RegionCells.mono : ∀ a0 a1 a2 a3 k, LeO (impl_RegionCells.f k a0 a1 a2 a3) (impl_RegionCells.f (k + 1) a0 a1 a2 a3) := by
 intro a0 a1 a2 a3 k; have ih0 := impl_RegionCells.mono_l k
 unfold impl_RegionCells.f
 repeat' first | (with_reducible first | exact ih0 _ _ _ _ _ | exact impl_regions.mono _ _ _ _ | exact LeO.refl _ | exact LeO.none _ | refine LeO.ite ?_ ?_ | refine LeO.bind ?_ (fun _ => ?_)) | exact ih0 _ _ _ _ _ | exact impl_regions.mono _ _ _ _ | exact LeO.none _ | refine LeO.ite ?_ ?_ | refine LeO.bind ?_ (fun _ => ?_)
set_option maxHeartbeats 8000000 in
set_option maxRecDepth 100000 in
theorem impl_RegionCells.calls (k : Nat) (a0_0 : Int) (a0_1 : Int) (a0_2 : ByteArray) (a1 : Int) (r : List Int) (w : World) (h : impl_RegionCells.f k a0_0 a0_1 a0_2 a1 = some r) :
  Calls Try.prog 24 #[.agg #[.int .i64 a0_0, .int .i64 a0_1, .string a0_2], .int .i64 a1] w fun e w' => ∃ v0_ : Value, e = .returned (v0_) ∧ Kd.R (Kd.int .i64) 3 w' w.heap.size (fun _ => True) v0_ r ∧ Below w.heap.size w w' := by
 have hu26 := Try.underlying26; have HB := Aside0.mk (Below.refl w.heap.size w); have H : ((impl_regions.f k a0_0 a0_1 a0_2).bind fun t166 => (impl_RegionCells.l0 k a1 (([] : List Int)) t166 (t166.length : Int) 0)) = some r := h; clear h; obtain ⟨y163, hy163⟩ : ∃ y_ : List Int, y_ = (([] : List Int)) := ⟨_, rfl⟩
 replace H : ((impl_regions.f k a0_0 a0_1 a0_2).bind fun t166 => (impl_RegionCells.l0 k a1 y163 t166 (t166.length : Int) 0)) = some r := by first | (rw [hy163]; with_reducible exact H) | (have H2_ := (Option.bind_some _ _).symm.trans H; rw [hy163]; with_reducible exact H2_) | (have H2_ := (Option.bind_some _ _).symm.trans H; with_reducible exact H2_) | with_reducible exact H | (rw [hy163]; exact H) | exact H
 have Ny163 := Aside0.mk hy163; clear hy163; replace H := Option.bind_eq_some_iff.mp H; obtain ⟨t166, A30, H⟩ := H; have A3 := Aside0.mk A30; clear A30; have H' := Aside0.mk H; clear H
 go_enter Try.func24, Try.ntmps24; go_wp2_with (first | ((with_reducible refine gt (some 2) rfl ?_); refine bx #[.int .i64 a0_0, .int .i64 a0_1, .string a0_2] 26 ?_; intro gb162 hg w4 hbox hb; have BK162 := Aside0.mk (hbox); have GW162 := Aside0.mk (gez HB hg); have GE162 := Aside0.mk (gez HB hg); replace HB := Aside0.mk (below_step bz hb); clear hb hbox hg) | ((with_reducible refine gate_dst (N := 8) rfl ?_); refine Kd.R_lit (Kd.int .i64) _ 3 ?hg (N := 8) ?hd (xs := ([] : List Int)) (inner := []) (ok := fun _ => True) (okp := fun _ => True) ?hr ?hp (fun _ hk => hk) trivial (Below.refl _ _) (Nat.le_refl _) (by simp) ?_; (case hd => rfl); (case hg => rfl); (case hr => first | (go_simp; done) | (go_simp; rfl)); (case hp => exact (Reps.none _ _)); intro v164 w5 ho6 hb hg_ hnew_; clear hg_ hnew_; (first | rw [← Ny163.out] at ho6 | (simp only [Int.reduceToNat] at ho6; rw [← Ny163.out] at ho6)); have HO165 := Aside0.mk (Kd.R_lower ho6 (below_size bzs)); replace BK162 := Aside0.mk (bbz BK162 hb); replace HB := Aside0.mk (below_step bzs hb); clear hb ho6; obtain ⟨hcz7_0, hcz7_1, hcz7_2, hfz7_0, hfz7_1, hfz7_2⟩ := cells3 BK162) | ((with_reducible refine gt (some 10) rfl ?_); refine gc Try.func66 (impl_regions.calls k a0_0 a0_1 a0_2 t166 _ A3.out) ?_; rintro e w8 ⟨v167, rfl, ho0, hb⟩; refine ⟨_, rfl, ?_⟩; have HO168 := Aside0.mk (Kd.R_lower (Kd.R_new' ho0 (Kd.R_lt (hr HO165.out))) (below_size bzs)); replace HO165 := Aside0.mk (Kd.R_elder' (hr HO165.out) (Kd.R_base ho0) hb); replace BK162 := Aside0.mk (bbz BK162 hb); replace HB := Aside0.mk (below_step bzs hb); (try clear hb); (try clear ho0); obtain ⟨Ao9, co9, eo9⟩ := Kd.R_slice HO168.out; subst eo9))
 (try simp only [Act.put, List.setIfInBounds_toArray, List.set_cons_zero, List.set_cons_succ])
 go_loopg [5, 12] k (fun kq v5 v12 w' => ∃ (x5_1 : List Int) (x12_1 : Int), v12 = .int .i64 x12_1 ∧ Aside0 (impl_RegionCells.l0 kq a1 x5_1 t166 (t166.length : Int) x12_1 = some r) ∧ Aside0 (kq ≤ k) ∧ Aside0 (Kd.R (Kd.int .i64) 3 w' w.heap.size (fun k_ => some k_ ≠ ((.slice Ao9 t166.length co9) : Value).ownBlock) v5 x5_1) ∧ Aside0 (Kd.R (Kd.int .i64) 3 w' w.heap.size (fun k_ => some k_ ≠ (v5 : Value).ownBlock) (.slice Ao9 t166.length co9) t166) ∧ Aside0 (w'.heap[gb162]? = some (.cells #[.int .i64 a0_0, .int .i64 a0_1, .string a0_2] 26 (0, 0))) ∧ Aside0 (Below w.heap.size w w'))
 case atStart => exact ⟨(y163), (0), rz, H', ⟨Nat.le_refl _⟩, ⟨hr (Kd.R_mono HO165.out (fun _ hk => hk.2))⟩, ⟨hr (Kd.R_mono HO168.out (fun _ hk => hk.2))⟩, ⟨kz BK162⟩, ⟨bzs⟩⟩
 case round =>
  clear H'; (try clear c2); (try clear p2); (try clear c6); (try clear hcz7_0); (try clear hcz7_1); (try clear hcz7_2); (try clear hfz7_0); (try clear hfz7_1); (try clear hfz7_2); obtain ⟨x5_1, x12_1, rfl, HA, HK1, HO_5, HO_10, BK162, HB⟩ := hrel
  cases gk with
  | zero => exact absurd HA.out (by simp [impl_RegionCells.l0])
  | succ k1 =>
   have H := HA.out; clear HA; simp only [impl_RegionCells.l0] at H
   by_cases c10 : x12_1 < (t166.length : Int)
   ·rw [if_pos c10] at H; have c10b0 := decide_eq_true c10; clear c10
    by_cases c11 : 0 ≤ x12_1
    ·rw [if_pos c11] at H; have c11b0 := decide_eq_true c11; clear c11
     by_cases c12 : x12_1 < (t166.length : Int)
     ·rw [if_pos c12] at H; have c12b0 := decide_eq_true c12; clear c12
      by_cases c13 : (rd t166 x12_1) = a1
      ·rw [if_pos c13] at H; have c13b0 : ((rd t166 x12_1) == a1) = true := beq_iff_eq.mpr c13; have c13b1 : ((rd t166 x12_1) != a1) = false := bne_eq_false_iff_eq.mpr c13; clear c13
       by_cases c14 : x5_1.length < 17592186044416
       ·rw [if_pos c14] at H; have LMc14 := Aside0.mk c14; clear c14; obtain ⟨y170, hy170⟩ : ∃ y_ : List Int, y_ = (x5_1 ++ [x12_1]) := ⟨_, rfl⟩
        replace H : (impl_RegionCells.l0 k1 a1 y170 t166 (t166.length : Int) (wrap64 (x12_1 + 1))) = some r := by first | (rw [hy170]; with_reducible exact H) | (have H2_ := (Option.bind_some _ _).symm.trans H; rw [hy170]; with_reducible exact H2_) | (have H2_ := (Option.bind_some _ _).symm.trans H; with_reducible exact H2_) | with_reducible exact H | (rw [hy170]; exact H) | exact H
        have Ny170 := Aside0.mk hy170; clear hy170; have H' := Aside0.mk H; clear H; have p169 : 0 ≤ (x12_1 : Int) := of_decide_eq_true az; have q169 : x12_1 < (t166.length : Int) := of_decide_eq_true az; obtain ⟨ad169, e169, hx169_0⟩ := Kd.at_int (Kd.R_reads' HO_10.out).2.2 x12_1 p169 q169
        cases e169
        replace p169 := eq_true p169; replace q169 := eq_true q169; go_wp2_with (first | ((with_reducible refine gate_builtin (b := .append) (xs := #[.tmp 20, .tmp 22]) rfl ?_); at_builtin; refine Kd.R_append (Kd.int .i64) (w0 := w) w.heap.size rfl (.tmp 20) (.tmp 22) 29 3 (.int .i64 0) 8 rfl Try.underlying29 info3 rfl (by decide) (by omega) u5 x5_1 x12_1 [.int .i64 x12_1] (fun k_ => some k_ ≠ (.slice (some ad169) t166.length co9 : Value).ownBlock) (fun _ => False) rfl rfl ?aP (fun _ hk => hk.elim) ?aF ?aO ?aB ?aS ?aL ?_; (case aP => exact rfl); (case aB => exact bzs); (case aF => exact (fun k_ hk => Kd.fresh' (Kd.R_lt (hr HO_10.out)) k_ hk)); (case aO => exact (hr HO_5.out)); (case aS => exact (below_size bzs)); (case aL => have := LMc14.out; omega); intro v171 w15 ho hb hg hat; rw [← Ny170.out] at ho; have n0_ := Aside0.mk (Kd.R_after (ok := (fun _ => True)) (Kd.R_mono (hr HO_10.out) (fun _ hk => And.intro trivial hk)) hg hat); have n1_ := Aside0.mk (blk_grown (g := gb162) (o := .cells #[.int .i64 a0_0, .int .i64 a0_1, .string a0_2] 26 (0, 0)) (kz BK162) hg (Kd.R_ne HO_5.out BK162.out (by decide))); have n2_ := Aside0.mk (hb); have n3_ := Aside0.mk (ho); clear HO_10; clear BK162; clear HB; clear HO_5; have HO_10 := n0_; have BK162 := n1_; have HB := n2_; have HO172 := n3_; clear n0_ n1_ n2_ n3_; clear ho hb hg hat))
        go_roundg k1
        case measure => have := HK1.out; omega
        case rel => exact ⟨(y170), (wrap64 (x12_1 + 1)), rz, H', ⟨by have := HK1.out; omega⟩, ⟨hr HO172.out⟩, ⟨hr (Kd.R_mono HO_10.out (fun _ hk => hk.2))⟩, ⟨kz BK162⟩, ⟨bzs⟩⟩
       ·rw [if_neg c14] at H
        exact absurd H (by simp)
      ·rw [if_neg c13] at H; have c13b0 : ((rd t166 x12_1) == a1) = false := beq_eq_false_iff_ne.mpr c13; have c13b1 : ((rd t166 x12_1) != a1) = true := bne_iff_ne.mpr c13; have H' := Aside0.mk H; clear H; have p169 : 0 ≤ (x12_1 : Int) := of_decide_eq_true az; have q169 : x12_1 < (t166.length : Int) := of_decide_eq_true az; obtain ⟨ad169, e169, hx169_0⟩ := Kd.at_int (Kd.R_reads' HO_10.out).2.2 x12_1 p169 q169
       cases e169
       replace p169 := eq_true p169; replace q169 := eq_true q169; go_wp2
       go_roundg k1
       case measure => have := HK1.out; omega
       case rel => exact ⟨(x5_1), (wrap64 (x12_1 + 1)), rz, H', ⟨by have := HK1.out; omega⟩, ⟨hr HO_5.out⟩, ⟨hr HO_10.out⟩, ⟨kz BK162⟩, ⟨bzs⟩⟩
     ·rw [if_neg c12] at H
      exact absurd H (by simp)
    ·rw [if_neg c11] at H
     exact absurd H (by simp)
   ·rw [if_neg c10] at H; have c10b0 := decide_eq_false c10; clear c10; obtain rfl := Option.some.inj H; go_wp2; go_ret
    exact ⟨_, ez, hr (Kd.R_mono HO_5.out (fun _ hk => trivial)), bzs⟩

/-! ### impl_SmallestRegion: function 34 -/
def impl_SmallestRegion.l0 : Nat → Int → Int → List Int → Int → Int → Int → Int → ByteArray → Option (Int)
 | 0, _, _, _, _, _, _, _, _ => none
 | k + 1, x5, x6, x12, x13, x14, x174000, x174001, x174002 => if x14 < x13 then (if 0 ≤ x14 then (if x14 < (x12.length : Int) then ((impl_RegionCells.f k x174000 x174001 x174002 (rd x12 x14)).bind fun t178 => (if (t178.length : Int) < x6 then (impl_SmallestRegion.l0 k (rd x12 x14) (t178.length : Int) x12 x13 (wrap64 (x14 + 1)) x174000 x174001 x174002) else (impl_SmallestRegion.l0 k x5 x6 x12 x13 (wrap64 (x14 + 1)) x174000 x174001 x174002))) else (none)) else (none)) else (some x5)
def impl_SmallestRegion.f (k : Nat) (a0_0 : Int) (a0_1 : Int) (a0_2 : ByteArray) (a1 : Int) : Option (Int) := (impl_RegionsOf.f k a0_0 a0_1 a0_2).bind fun t174 => (impl_SmallestRegion.l0 k (-1) a1 t174 (t174.length : Int) 0 a0_0 a0_1 a0_2)
theorem impl_SmallestRegion.mono_l : ∀ k, (∀ y0 y1 y2 y3 y4 y5 y6 y7, LeO (impl_SmallestRegion.l0 k y0 y1 y2 y3 y4 y5 y6 y7) (impl_SmallestRegion.l0 (k + 1) y0 y1 y2 y3 y4 y5 y6 y7))
 | 0 => fun _ _ _ _ _ _ _ _ r h => by simp [impl_SmallestRegion.l0] at h
 | k + 1 => by
  have ih0 := impl_SmallestRegion.mono_l k
  ·intro y0 y1 y2 y3 y4 y5 y6 y7
   unfold impl_SmallestRegion.l0
   repeat' first | (with_reducible first | exact ih0 _ _ _ _ _ _ _ _ | exact impl_RegionCells.mono _ _ _ _ _ | exact impl_RegionsOf.mono _ _ _ _ | exact LeO.refl _ | exact LeO.none _ | refine LeO.ite ?_ ?_ | refine LeO.bind ?_ (fun _ => ?_)) | exact ih0 _ _ _ _ _ _ _ _ | exact impl_RegionCells.mono _ _ _ _ _ | exact impl_RegionsOf.mono _ _ _ _ | exact LeO.none _ | refine LeO.ite ?_ ?_ | refine LeO.bind ?_ (fun _ => ?_)
theorem impl_SmallestRegion.mono : ∀ a0 a1 a2 a3 k, LeO (impl_SmallestRegion.f k a0 a1 a2 a3) (impl_SmallestRegion.f (k + 1) a0 a1 a2 a3) := by
 intro a0 a1 a2 a3 k; have ih0 := impl_SmallestRegion.mono_l k
 unfold impl_SmallestRegion.f
 repeat' first | (with_reducible first | exact ih0 _ _ _ _ _ _ _ _ | exact impl_RegionCells.mono _ _ _ _ _ | exact impl_RegionsOf.mono _ _ _ _ | exact LeO.refl _ | exact LeO.none _ | refine LeO.ite ?_ ?_ | refine LeO.bind ?_ (fun _ => ?_)) | exact ih0 _ _ _ _ _ _ _ _ | exact impl_RegionCells.mono _ _ _ _ _ | exact impl_RegionsOf.mono _ _ _ _ | exact LeO.none _ | refine LeO.ite ?_ ?_ | refine LeO.bind ?_ (fun _ => ?_)
set_option maxHeartbeats 8000000 in
set_option maxRecDepth 100000 in
theorem impl_SmallestRegion.calls (k : Nat) (a0_0 : Int) (a0_1 : Int) (a0_2 : ByteArray) (a1 : Int) (r : Int) (w : World) (h : impl_SmallestRegion.f k a0_0 a0_1 a0_2 a1 = some r) :
  Calls Try.prog 34 #[.agg #[.int .i64 a0_0, .int .i64 a0_1, .string a0_2], .int .i64 a1] w fun e w' => e = .returned (.int .i64 r) ∧ Below w.heap.size w w' := by
 have hu26 := Try.underlying26; have HB := Aside0.mk (Below.refl w.heap.size w); have H : ((impl_RegionsOf.f k a0_0 a0_1 a0_2).bind fun t174 => (impl_SmallestRegion.l0 k (-1) a1 t174 (t174.length : Int) 0 a0_0 a0_1 a0_2)) = some r := h; clear h; replace H := Option.bind_eq_some_iff.mp H; obtain ⟨t174, A30, H⟩ := H; have A3 := Aside0.mk A30; clear A30; have H' := Aside0.mk H; clear H
 go_enter Try.func34, Try.ntmps34; go_wp2_with (first | ((with_reducible refine gt (some 2) rfl ?_); refine bx #[.int .i64 a0_0, .int .i64 a0_1, .string a0_2] 26 ?_; intro gb173 hg w4 hbox hb; have BK173 := Aside0.mk (hbox); have GW173 := Aside0.mk (gez HB hg); have GE173 := Aside0.mk (gez HB hg); replace HB := Aside0.mk (below_step bz hb); clear hb hbox hg; obtain ⟨hcz5_0, hcz5_1, hcz5_2, hfz5_0, hfz5_1, hfz5_2⟩ := cells3 BK173) | ((with_reducible refine gt (some 12) rfl ?_); refine gc Try.func29 (impl_RegionsOf.calls k a0_0 a0_1 a0_2 t174 _ A3.out) ?_; rintro e w6 ⟨v175, rfl, ho0, hb⟩; refine ⟨_, rfl, ?_⟩; have HO176 := Aside0.mk (Kd.R_lower ho0 (below_size bzs)); replace BK173 := Aside0.mk (bbz BK173 hb); replace HB := Aside0.mk (below_step bzs hb); (try clear hb); (try clear ho0); obtain ⟨Ao7, co7, eo7⟩ := Kd.R_slice HO176.out; subst eo7)); (try simp only [Act.put, List.setIfInBounds_toArray, List.set_cons_zero, List.set_cons_succ])
 go_loopg [5, 6, 14] k (fun kq v5 v6 v14 w' => ∃ (x5_1 : Int) (x6_1 : Int) (x14_1 : Int), v5 = .int .i64 x5_1 ∧ v6 = .int .i64 x6_1 ∧ v14 = .int .i64 x14_1 ∧ Aside0 (impl_SmallestRegion.l0 kq x5_1 x6_1 t174 (t174.length : Int) x14_1 a0_0 a0_1 a0_2 = some r) ∧ Aside0 (kq ≤ k) ∧ Aside0 (Kd.R (Kd.int .i64) 3 w' w.heap.size (fun _ => True) (.slice Ao7 t174.length co7) t174) ∧ Aside0 (w'.heap[gb173]? = some (.cells #[.int .i64 a0_0, .int .i64 a0_1, .string a0_2] 26 (0, 0))) ∧ Aside0 (Below w.heap.size w w'))
 case atStart => exact ⟨((-1)), (a1), (0), rz, rz, rz, H', ⟨Nat.le_refl _⟩, ⟨hr HO176.out⟩, ⟨kz BK173⟩, ⟨bzs⟩⟩
 case round =>
  clear H'; (try clear c2); (try clear p2); (try clear c3); (try clear hcz5_0); (try clear hcz5_1); (try clear hcz5_2); (try clear hfz5_0); (try clear hfz5_1); (try clear hfz5_2); obtain ⟨x5_1, x6_1, x14_1, rfl, rfl, rfl, HA, HK1, HO_12, BK173, HB⟩ := hrel
  cases gk with
  | zero => exact absurd HA.out (by simp [impl_SmallestRegion.l0])
  | succ k1 =>
   have H := HA.out; clear HA; simp only [impl_SmallestRegion.l0] at H
   by_cases c8 : x14_1 < (t174.length : Int)
   ·rw [if_pos c8] at H; have c8b0 := decide_eq_true c8; clear c8
    by_cases c9 : 0 ≤ x14_1
    ·rw [if_pos c9] at H; have c9b0 := decide_eq_true c9; clear c9
     by_cases c10 : x14_1 < (t174.length : Int)
     ·rw [if_pos c10] at H; have c10b0 := decide_eq_true c10; clear c10; replace H := Option.bind_eq_some_iff.mp H; obtain ⟨t178, A110, H⟩ := H; have A11 := Aside0.mk A110; clear A110
      by_cases c12 : (t178.length : Int) < x6_1
      ·rw [if_pos c12] at H; have c12b0 := decide_eq_true c12; clear c12; have H' := Aside0.mk H; clear H; have p177 : 0 ≤ (x14_1 : Int) := of_decide_eq_true az; have q177 : x14_1 < (t174.length : Int) := of_decide_eq_true az; obtain ⟨ad177, e177, hx177_0⟩ := Kd.at_int (Kd.R_reads' HO_12.out).2.2 x14_1 p177 q177
       cases e177
       replace p177 := eq_true p177; replace q177 := eq_true q177; obtain ⟨hcz13_0, hcz13_1, hcz13_2, hfz13_0, hfz13_1, hfz13_2⟩ := cells3 BK173; go_wp2_with (first | ((with_reducible refine gt (some 20) rfl ?_); refine gc Try.func24 (impl_RegionCells.calls k1 a0_0 a0_1 a0_2 (rd t174 x14_1) t178 _ A11.out) ?_; rintro e w14 ⟨v179, rfl, ho0, hb⟩; refine ⟨_, rfl, ?_⟩; have HO180 := Aside0.mk (Kd.R_lower (Kd.R_new' ho0 (Kd.R_lt (hr HO_12.out))) (below_size bzs)); replace HO_12 := Aside0.mk (Kd.R_elder' (hr HO_12.out) (Kd.R_base ho0) hb); replace BK173 := Aside0.mk (bbz BK173 hb); replace HB := Aside0.mk (below_step bzs hb); (try clear hb); (try clear ho0); obtain ⟨Ao15, co15, eo15⟩ := Kd.R_slice HO180.out; subst eo15))
       go_roundg k1
       case measure => have := HK1.out; omega
       case rel => exact ⟨(rd t174 x14_1), ((t178.length : Int)), (wrap64 (x14_1 + 1)), rz, rz, rz, H', ⟨by have := HK1.out; omega⟩, ⟨hr (Kd.R_mono HO_12.out (fun _ hk => trivial))⟩, ⟨kz BK173⟩, ⟨bzs⟩⟩
      ·rw [if_neg c12] at H; have c12b0 := decide_eq_false c12; clear c12; have H' := Aside0.mk H; clear H; have p177 : 0 ≤ (x14_1 : Int) := of_decide_eq_true az; have q177 : x14_1 < (t174.length : Int) := of_decide_eq_true az; obtain ⟨ad177, e177, hx177_0⟩ := Kd.at_int (Kd.R_reads' HO_12.out).2.2 x14_1 p177 q177
       cases e177
       replace p177 := eq_true p177; replace q177 := eq_true q177; obtain ⟨hcz16_0, hcz16_1, hcz16_2, hfz16_0, hfz16_1, hfz16_2⟩ := cells3 BK173; go_wp2_with (first | ((with_reducible refine gt (some 20) rfl ?_); refine gc Try.func24 (impl_RegionCells.calls k1 a0_0 a0_1 a0_2 (rd t174 x14_1) t178 _ A11.out) ?_; rintro e w17 ⟨v179, rfl, ho0, hb⟩; refine ⟨_, rfl, ?_⟩; have HO180 := Aside0.mk (Kd.R_lower (Kd.R_new' ho0 (Kd.R_lt (hr HO_12.out))) (below_size bzs)); replace HO_12 := Aside0.mk (Kd.R_elder' (hr HO_12.out) (Kd.R_base ho0) hb); replace BK173 := Aside0.mk (bbz BK173 hb); replace HB := Aside0.mk (below_step bzs hb); (try clear hb); (try clear ho0); obtain ⟨Ao18, co18, eo18⟩ := Kd.R_slice HO180.out; subst eo18))
       go_roundg k1
       case measure => have := HK1.out; omega
       case rel => exact ⟨(x5_1), (x6_1), (wrap64 (x14_1 + 1)), rz, rz, rz, H', ⟨by have := HK1.out; omega⟩, ⟨hr (Kd.R_mono HO_12.out (fun _ hk => trivial))⟩, ⟨kz BK173⟩, ⟨bzs⟩⟩
     ·rw [if_neg c10] at H
      exact absurd H (by simp)
    ·rw [if_neg c9] at H
     exact absurd H (by simp)
   ·rw [if_neg c8] at H; have c8b0 := decide_eq_false c8; clear c8; obtain rfl := Option.some.inj H; go_wp2; go_ret
    exact ⟨ez, bzs⟩

/-! ### slices_Sort_int_int: function 70 -/
def slices_Sort_int_int.f (l0 : List Int) : Option (List Int) := if l0.length < 4611686018427387904 then some (l0.mergeSort fun x y => decide (x ≤ y)) else none
theorem slices_Sort_int_int.calls (P0_ : Nat → Prop) (u9000_ : Value) (l0 : List Int) (r : List Int) (w0 w : World) (hB : Below w0.heap.size w0 w) (ho0 : Kd.R (Kd.int .i64) 3 w w0.heap.size P0_ u9000_ l0) (h : slices_Sort_int_int.f l0 = some r) :
    Calls Try.prog 70 #[u9000_] w fun e w' => e = .returned (.tuple #[]) ∧ Kd.R (Kd.int .i64) 3 w' w0.heap.size (fun k_ => (P0_ k_ ∨ w.heap.size ≤ k_)) u9000_ r ∧ Below w0.heap.size w0 w' ∧ Kept w w' (fun k_ => P0_ k_) := by
  unfold slices_Sort_int_int.f at h
  split at h
  · rename_i hlt
    obtain rfl := Option.some.inj h; have hown := Kd.own_of_R ho0
    rcases hown.2 with ⟨rfl, h0⟩ | ⟨g, cap, cur, rfl, hg, hb, h1, h2, h3, h4⟩
    · obtain rfl : l0 = [] := List.eq_nil_of_length_eq_zero h0; refine (Try.slices_Sort_int_none none 0 w).mono ?_; rintro e w' ⟨rfl, rfl⟩
      exact ⟨rfl, by simpa using Kd.R_mono ho0 (fun k hk => .inl hk), hB, Kept.refl _ _⟩
    · have hl : (l0.mergeSort fun x y => decide (x ≤ y)).length = l0.length := List.length_mergeSort _; refine (Try.slices_Sort_int g 0 cap l0 w (Go.holds_of_blockI hb (by simpa [encs] using h4)) (blk_lt hb) hlt).mono ?_; rintro e w' ⟨rfl, n, os, rfl⟩; have hgr := Go.grownBy_sortedI (w := w) (g := g) (n := n) (os := os) (l0.mergeSort fun x y => decide (x ≤ y)).toArray; refine ⟨rfl, Kd.R_of_own (enc := Value.int .i64) ?_ (fun k hk => .inl (ho0.1 k hk)), hB.grown hgr (Nat.le_trans hB.size (Nat.le_refl _)) (fun k hk => by cases hk; exact hg), hgr.size, fun i hi hP => hgr.block i hi (fun e => hP (ho0.1 i (by simpa [Value.ownBlock] using e.symm)))⟩; have := Go.ownsRow_sortedI (n := n) (os := os) hl hg hb h1 h2 h3; rw [hl]; simpa [encs] using this
  · cases h
/-! ### slices_Compact_int_int: function 71 -/
def slices_Compact_int_int.f (l0 : List Int) : Option (List Int) := if l0.length ≤ 9223372036854775807 then some (Go.Lib.compact l0) else none
theorem slices_Compact_int_int.calls (P0_ : Nat → Prop) (u9000_ : Value) (l0 : List Int) (r : List Int) (w0 w : World) (hB : Below w0.heap.size w0 w) (ho0 : Kd.R (Kd.int .i64) 3 w w0.heap.size P0_ u9000_ l0) (h : slices_Compact_int_int.f l0 = some r) :
    Calls Try.prog 71 #[u9000_] w fun e w' => ∃ v0_ : Value, e = .returned (v0_) ∧ Kd.R (Kd.int .i64) 3 w' w0.heap.size (fun k_ => (P0_ k_ ∨ w.heap.size ≤ k_)) v0_ r ∧ Below w0.heap.size w0 w' ∧ Kept w w' (fun k_ => P0_ k_) := by
  unfold slices_Compact_int_int.f at h
  split at h
  · rename_i hlt
    obtain rfl := Option.some.inj h; have hown := Kd.own_of_R ho0
    rcases hown.2 with ⟨rfl, h0⟩ | ⟨g, cap, cur, rfl, hg, hb, h1, h2, h3, h4⟩
    · obtain rfl : l0 = [] := List.eq_nil_of_length_eq_zero h0; refine (Try.slices_Compact_int_empty none 0 w).mono ?_; rintro e w' ⟨rfl, rfl⟩
      exact ⟨_, rfl, by simpa [Go.Lib.compact, Go.Lib.compactUpTo] using Kd.R_mono ho0 (fun k hk => .inl hk), hB, Kept.refl _ _⟩
    · have hle := compact_le l0; have hl : (Go.Lib.compact l0 ++ List.replicate (l0.length - (Go.Lib.compact l0).length) 0).length = l0.length := by simp; omega
      refine (Try.slices_Compact_int g 0 cap l0 w (Go.holds_of_blockI hb (by simpa [encs] using h4)) hlt h1).mono ?_; rintro e w' ⟨rfl, n, rfl⟩; have hgr := Go.grownBy_sortedI (w := w) (g := g) (n := n) (os := #[]) (Go.Lib.compact l0 ++ List.replicate (l0.length - (Go.Lib.compact l0).length) 0).toArray; rw [Go.Sort.grow_empty] at hgr; refine ⟨_, rfl, Kd.R_of_own (enc := Value.int .i64) ?_ (fun k hk => .inl (ho0.1 k (by simpa [Value.ownBlock] using hk))), hB.grown hgr (Nat.le_trans hB.size (Nat.le_refl _)) (fun k hk => by cases hk; exact hg), hgr.size, fun i hi hP => hgr.block i hi (fun e => hP (ho0.1 i (by simpa [Value.ownBlock] using e.symm)))⟩; have := Go.ownsRow_sortedI (n := n) (os := #[]) hl hg hb h1 h2 h3; rw [Go.Sort.grow_empty] at this; have hc := own_cut this (m := (Go.Lib.compact l0).length) hle; simpa [encs] using hc
  · cases h
/-! ### impl_Neighbours: function 39 -/
mutual
def impl_Neighbours.l0 : Nat → Int → List Int → List Int → Int → Int → Int → Int → ByteArray → Option (List Int)
 | 0, _, _, _, _, _, _, _, _ => none
 | k + 1, x1, x5, x6, x14, x15, x182000, x182001, x182002 => if x15 < x14 then (if 0 ≤ x15 then (if x15 < (x5.length : Int) then (if (rd x5 x15) = x1 then ((impl_beside.f k x182000 x182001 x182002 x15).bind fun t193 => (impl_Neighbours.l1 k x1 x5 x6 x14 x15 t193 (t193.length : Int) 0 x182000 x182001 x182002)) else (impl_Neighbours.l0 k x1 x5 x6 x14 (wrap64 (x15 + 1)) x182000 x182001 x182002)) else (none)) else (none)) else ((slices_Sort_int_int.f x6).bind fun t188 => ((slices_Compact_int_int.f t188).bind fun t189 => (some t189)))
def impl_Neighbours.l1 : Nat → Int → List Int → List Int → Int → Int → List Int → Int → Int → Int → Int → ByteArray → Option (List Int)
 | 0, _, _, _, _, _, _, _, _, _, _, _ => none
 | k + 1, x1, x5, x6, x14, x15, x26, x27, x28, x182000, x182001, x182002 => if x28 < x27 then (if 0 ≤ x28 then (if x28 < (x26.length : Int) then (if 0 ≤ (rd x26 x28) then (if (rd x26 x28) < (x5.length : Int) then (if (rd x5 (rd x26 x28)) = x1 then (impl_Neighbours.l1 k x1 x5 x6 x14 x15 x26 x27 (wrap64 (x28 + 1)) x182000 x182001 x182002) else (if x6.length < 17592186044416 then (impl_Neighbours.l1 k x1 x5 (x6 ++ [rd x5 (rd x26 x28)]) x14 x15 x26 x27 (wrap64 (x28 + 1)) x182000 x182001 x182002) else (none))) else (none)) else (none)) else (none)) else (none)) else (impl_Neighbours.l0 k x1 x5 x6 x14 (wrap64 (x15 + 1)) x182000 x182001 x182002)
end
def impl_Neighbours.f (k : Nat) (a0_0 : Int) (a0_1 : Int) (a0_2 : ByteArray) (a1 : Int) : Option (List Int) := (impl_regions.f k a0_0 a0_1 a0_2).bind fun t182 => (impl_Neighbours.l0 k a1 t182 (([] : List Int)) (t182.length : Int) 0 a0_0 a0_1 a0_2)
theorem impl_Neighbours.mono_l : ∀ k, (∀ y0 y1 y2 y3 y4 y5 y6 y7, LeO (impl_Neighbours.l0 k y0 y1 y2 y3 y4 y5 y6 y7) (impl_Neighbours.l0 (k + 1) y0 y1 y2 y3 y4 y5 y6 y7)) ∧ (∀ y0 y1 y2 y3 y4 y5 y6 y7 y8 y9 y10, LeO (impl_Neighbours.l1 k y0 y1 y2 y3 y4 y5 y6 y7 y8 y9 y10) (impl_Neighbours.l1 (k + 1) y0 y1 y2 y3 y4 y5 y6 y7 y8 y9 y10))
 | 0 => ⟨fun _ _ _ _ _ _ _ _ r h => by simp [impl_Neighbours.l0] at h, fun _ _ _ _ _ _ _ _ _ _ _ r h => by simp [impl_Neighbours.l1] at h⟩
 | k + 1 => by
  obtain ⟨ih0, ih1⟩ := impl_Neighbours.mono_l k; refine ⟨?_, ?_⟩
  ·intro y0 y1 y2 y3 y4 y5 y6 y7
   unfold impl_Neighbours.l0
   repeat' first | (with_reducible first | exact ih0 _ _ _ _ _ _ _ _ | exact ih1 _ _ _ _ _ _ _ _ _ _ _ | exact impl_beside.mono _ _ _ _ _ | exact impl_regions.mono _ _ _ _ | exact LeO.refl _ | exact LeO.none _ | refine LeO.ite ?_ ?_ | refine LeO.bind ?_ (fun _ => ?_)) | exact ih0 _ _ _ _ _ _ _ _ | exact ih1 _ _ _ _ _ _ _ _ _ _ _ | exact impl_beside.mono _ _ _ _ _ | exact impl_regions.mono _ _ _ _ | exact LeO.none _ | refine LeO.ite ?_ ?_ | refine LeO.bind ?_ (fun _ => ?_)
  ·intro y0 y1 y2 y3 y4 y5 y6 y7 y8 y9 y10
   unfold impl_Neighbours.l1
   repeat' first | (with_reducible first | exact ih0 _ _ _ _ _ _ _ _ | exact ih1 _ _ _ _ _ _ _ _ _ _ _ | exact impl_beside.mono _ _ _ _ _ | exact impl_regions.mono _ _ _ _ | exact LeO.refl _ | exact LeO.none _ | refine LeO.ite ?_ ?_ | refine LeO.bind ?_ (fun _ => ?_)) | exact ih0 _ _ _ _ _ _ _ _ | exact ih1 _ _ _ _ _ _ _ _ _ _ _ | exact impl_beside.mono _ _ _ _ _ | exact impl_regions.mono _ _ _ _ | exact LeO.none _ | refine LeO.ite ?_ ?_ | refine LeO.bind ?_ (fun _ => ?_)
theorem impl_Neighbours.mono : ∀ a0 a1 a2 a3 k, LeO (impl_Neighbours.f k a0 a1 a2 a3) (impl_Neighbours.f (k + 1) a0 a1 a2 a3) := by
 intro a0 a1 a2 a3 k; obtain ⟨ih0, ih1⟩ := impl_Neighbours.mono_l k
 unfold impl_Neighbours.f
 repeat' first | (with_reducible first | exact ih0 _ _ _ _ _ _ _ _ | exact ih1 _ _ _ _ _ _ _ _ _ _ _ | exact impl_beside.mono _ _ _ _ _ | exact impl_regions.mono _ _ _ _ | exact LeO.refl _ | exact LeO.none _ | refine LeO.ite ?_ ?_ | refine LeO.bind ?_ (fun _ => ?_)) | exact ih0 _ _ _ _ _ _ _ _ | exact ih1 _ _ _ _ _ _ _ _ _ _ _ | exact impl_beside.mono _ _ _ _ _ | exact impl_regions.mono _ _ _ _ | exact LeO.none _ | refine LeO.ite ?_ ?_ | refine LeO.bind ?_ (fun _ => ?_)
set_option maxHeartbeats 8000000 in
set_option maxRecDepth 100000 in
theorem impl_Neighbours.calls (k : Nat) (a0_0 : Int) (a0_1 : Int) (a0_2 : ByteArray) (a1 : Int) (r : List Int) (w : World) (h : impl_Neighbours.f k a0_0 a0_1 a0_2 a1 = some r) :
  Calls Try.prog 39 #[.agg #[.int .i64 a0_0, .int .i64 a0_1, .string a0_2], .int .i64 a1] w fun e w' => ∃ v0_ : Value, e = .returned (v0_) ∧ Kd.R (Kd.int .i64) 3 w' w.heap.size (fun _ => True) v0_ r ∧ Below w.heap.size w w' := by
 have hu26 := Try.underlying26; have HB := Aside0.mk (Below.refl w.heap.size w); have H : ((impl_regions.f k a0_0 a0_1 a0_2).bind fun t182 => (impl_Neighbours.l0 k a1 t182 (([] : List Int)) (t182.length : Int) 0 a0_0 a0_1 a0_2)) = some r := h; clear h; replace H := Option.bind_eq_some_iff.mp H; obtain ⟨t182, A30, H⟩ := H; have A3 := Aside0.mk A30; clear A30; obtain ⟨y185, hy185⟩ : ∃ y_ : List Int, y_ = (([] : List Int)) := ⟨_, rfl⟩
 replace H : (impl_Neighbours.l0 k a1 t182 y185 (t182.length : Int) 0 a0_0 a0_1 a0_2) = some r := by first | (rw [hy185]; with_reducible exact H) | (have H2_ := (Option.bind_some _ _).symm.trans H; rw [hy185]; with_reducible exact H2_) | (have H2_ := (Option.bind_some _ _).symm.trans H; with_reducible exact H2_) | with_reducible exact H | (rw [hy185]; exact H) | exact H
 have Ny185 := Aside0.mk hy185; clear hy185; have H' := Aside0.mk H; clear H
 go_enter Try.func39, Try.ntmps39; go_wp2_with (first | ((with_reducible refine gt (some 2) rfl ?_); refine bx #[.int .i64 a0_0, .int .i64 a0_1, .string a0_2] 26 ?_; intro gb181 hg w4 hbox hb; have BK181 := Aside0.mk (hbox); have GW181 := Aside0.mk (gez HB hg); have GE181 := Aside0.mk (gez HB hg); replace HB := Aside0.mk (below_step bz hb); clear hb hbox hg; obtain ⟨hcz5_0, hcz5_1, hcz5_2, hfz5_0, hfz5_1, hfz5_2⟩ := cells3 BK181) | ((with_reducible refine gt (some 11) rfl ?_); refine gc Try.func66 (impl_regions.calls k a0_0 a0_1 a0_2 t182 _ A3.out) ?_; rintro e w6 ⟨v183, rfl, ho0, hb⟩; refine ⟨_, rfl, ?_⟩; have HO184 := Aside0.mk (Kd.R_lower ho0 (below_size bzs)); replace BK181 := Aside0.mk (bbz BK181 hb); replace HB := Aside0.mk (below_step bzs hb); (try clear hb); (try clear ho0)) | ((with_reducible refine gate_dst (N := 12) rfl ?_); refine Kd.R_lit (Kd.int .i64) _ 3 ?hg (N := 12) ?hd (xs := ([] : List Int)) (inner := []) (ok := fun _ => True) (okp := fun _ => True) ?hr ?hp (fun _ hk => hk) trivial (Below.refl _ _) (Nat.le_refl _) (by simp) ?_; (case hd => rfl); (case hg => rfl); (case hr => first | (go_simp; done) | (go_simp; rfl)); (case hp => exact (Reps.none _ _)); intro v186 w7 ho8 hb hg_ hnew_; clear hg_ hnew_; (first | rw [← Ny185.out] at ho8 | (simp only [Int.reduceToNat] at ho8; rw [← Ny185.out] at ho8)); have HO187 := Aside0.mk (Kd.R_lower (Kd.R_new' ho8 (Kd.R_lt (hr HO184.out))) (below_size bzs)); replace HO184 := Aside0.mk (Kd.R_elder' (hr HO184.out) (Kd.R_base ho8) hb); replace BK181 := Aside0.mk (bbz BK181 hb); replace HB := Aside0.mk (below_step bzs hb); clear hb ho8; obtain ⟨Ao9, co9, eo9⟩ := Kd.R_slice HO184.out; subst eo9))
 (try simp only [Act.put, List.setIfInBounds_toArray, List.set_cons_zero, List.set_cons_succ])
 go_loopg [6, 15] k (fun kq v6 v15 w' => ∃ (x6_1 : List Int) (x15_1 : Int), v15 = .int .i64 x15_1 ∧ Aside0 (impl_Neighbours.l0 kq a1 t182 x6_1 (t182.length : Int) x15_1 a0_0 a0_1 a0_2 = some r) ∧ Aside0 (kq ≤ k) ∧ Aside0 (Kd.R (Kd.int .i64) 3 w' w.heap.size (fun k_ => some k_ ≠ (v6 : Value).ownBlock) (.slice Ao9 t182.length co9) t182) ∧ Aside0 (Kd.R (Kd.int .i64) 3 w' w.heap.size (fun k_ => some k_ ≠ ((.slice Ao9 t182.length co9) : Value).ownBlock) v6 x6_1) ∧ Aside0 (w'.heap[gb181]? = some (.cells #[.int .i64 a0_0, .int .i64 a0_1, .string a0_2] 26 (0, 0))) ∧ Aside0 (Below w.heap.size w w'))
 case atStart => exact ⟨(y185), (0), rz, H', ⟨Nat.le_refl _⟩, ⟨hr (Kd.R_mono HO184.out (fun _ hk => hk.2))⟩, ⟨hr (Kd.R_mono HO187.out (fun _ hk => hk.2))⟩, ⟨kz BK181⟩, ⟨bzs⟩⟩
 case round =>
  clear H'; (try clear p2); (try clear c3); (try clear c6); (try clear hcz5_0); (try clear hcz5_1); (try clear hcz5_2); (try clear hfz5_0); (try clear hfz5_1); (try clear hfz5_2); obtain ⟨x6_1, x15_1, rfl, HA, HK1, HO_5, HO_6, BK181, HB⟩ := hrel
  cases gk with
  | zero => exact absurd HA.out (by simp [impl_Neighbours.l0])
  | succ k1 =>
   have H := HA.out; clear HA; simp only [impl_Neighbours.l0] at H
   by_cases c10 : x15_1 < (t182.length : Int)
   ·rw [if_pos c10] at H; have c10b0 := decide_eq_true c10; clear c10
    by_cases c11 : 0 ≤ x15_1
    ·rw [if_pos c11] at H; have c11b0 := decide_eq_true c11; clear c11
     by_cases c12 : x15_1 < (t182.length : Int)
     ·rw [if_pos c12] at H; have c12b0 := decide_eq_true c12; clear c12
      by_cases c13 : (rd t182 x15_1) = a1
      ·rw [if_pos c13] at H; have c13b0 : ((rd t182 x15_1) == a1) = true := beq_iff_eq.mpr c13; have c13b1 : ((rd t182 x15_1) != a1) = false := bne_eq_false_iff_eq.mpr c13; clear c13; replace H := Option.bind_eq_some_iff.mp H; obtain ⟨t193, A140, H⟩ := H; have A14 := Aside0.mk A140; clear A140; have H' := Aside0.mk H; clear H; have p192 : 0 ≤ (x15_1 : Int) := of_decide_eq_true az; have q192 : x15_1 < (t182.length : Int) := of_decide_eq_true az; obtain ⟨ad192, e192, hx192_0⟩ := Kd.at_int (Kd.R_reads' HO_5.out).2.2 x15_1 p192 q192
       cases e192
       replace p192 := eq_true p192; replace q192 := eq_true q192; obtain ⟨hcz15_0, hcz15_1, hcz15_2, hfz15_0, hfz15_1, hfz15_2⟩ := cells3 BK181; go_wp2_with (first | ((with_reducible refine gt (some 26) rfl ?_); refine gc Try.func73 (impl_beside.calls k1 a0_0 a0_1 a0_2 x15_1 t193 _ A14.out) ?_; rintro e w16 ⟨v194, rfl, ho0, hb⟩; refine ⟨_, rfl, ?_⟩; have HO195 := Aside0.mk (Kd.R_lower (Kd.R_new' (Kd.R_new' ho0 (Kd.R_lt (hr HO_5.out))) (Kd.R_lt (hr HO_6.out))) (below_size bzs)); replace HO_5 := Aside0.mk (Kd.R_elder' (hr HO_5.out) (Kd.R_base ho0) hb); replace HO_6 := Aside0.mk (Kd.R_elder' (hr HO_6.out) (Kd.R_base ho0) hb); replace BK181 := Aside0.mk (bbz BK181 hb); replace HB := Aside0.mk (below_step bzs hb); (try clear hb); (try clear ho0); obtain ⟨Ao17, co17, eo17⟩ := Kd.R_slice HO195.out; subst eo17)); (try simp only [Act.put, List.setIfInBounds_toArray, List.set_cons_zero, List.set_cons_succ])
       go_loopg [6, 28] k1 (fun kq v6 v28 w' => ∃ (x6_2 : List Int) (x28_2 : Int), v28 = .int .i64 x28_2 ∧ Aside0 (impl_Neighbours.l1 kq a1 t182 x6_2 (t182.length : Int) x15_1 t193 (t193.length : Int) x28_2 a0_0 a0_1 a0_2 = some r) ∧ Aside0 (kq ≤ k1) ∧ Aside0 (Kd.R (Kd.int .i64) 3 w' w.heap.size (fun k_ => some k_ ≠ (v6 : Value).ownBlock ∧ some k_ ≠ ((.slice Ao17 t193.length co17) : Value).ownBlock) (.slice (some ad192) t182.length co9) t182) ∧ Aside0 (Kd.R (Kd.int .i64) 3 w' w.heap.size (fun k_ => some k_ ≠ ((.slice (some ad192) t182.length co9) : Value).ownBlock ∧ some k_ ≠ ((.slice Ao17 t193.length co17) : Value).ownBlock) v6 x6_2) ∧ Aside0 (Kd.R (Kd.int .i64) 3 w' w.heap.size (fun k_ => some k_ ≠ ((.slice (some ad192) t182.length co9) : Value).ownBlock ∧ some k_ ≠ (v6 : Value).ownBlock) (.slice Ao17 t193.length co17) t193) ∧ Aside0 (w'.heap[gb181]? = some (.cells #[.int .i64 a0_0, .int .i64 a0_1, .string a0_2] 26 (0, 0))) ∧ Aside0 (Below w.heap.size w w'))
       case atStart => exact ⟨(x6_1), (0), rz, H', ⟨Nat.le_refl _⟩, ⟨hr HO_5.out⟩, ⟨hr HO_6.out⟩, ⟨hr (Kd.R_mono HO195.out (fun _ hk => And.intro hk.1.2 hk.2))⟩, ⟨kz BK181⟩, ⟨bzs⟩⟩
       case round =>
        clear H'; (try clear c1); (try clear p1); (try clear q1); (try clear hx1); (try clear p2); (try clear c3); (try clear c6); (try clear c7); (try clear c10); (try clear c10b0); (try clear c11); (try clear c11b0); (try clear c12); (try clear c12b0); (try clear c13); (try clear c13b0); (try clear c13b1); (try clear hcz15_0); (try clear hcz15_1); (try clear hcz15_2); (try clear hcz5_0); (try clear hcz5_1); (try clear hcz5_2); (try clear hfz15_0); (try clear hfz15_1); (try clear hfz15_2); (try clear hfz5_0); (try clear hfz5_1); (try clear hfz5_2); (try clear hx192_0); (try clear p192); (try clear p2); (try clear q192); obtain ⟨x6_2, x28_2, rfl, HA, HK2, HO_5, HO_6, HO_26, BK181, HB⟩ := hrel
        cases gk with
        | zero => exact absurd HA.out (by simp [impl_Neighbours.l1])
        | succ k2 =>
         have H := HA.out; clear HA; simp only [impl_Neighbours.l1] at H
         by_cases c18 : x28_2 < (t193.length : Int)
         ·rw [if_pos c18] at H; have c18b0 := decide_eq_true c18; clear c18
          by_cases c19 : 0 ≤ x28_2
          ·rw [if_pos c19] at H; have c19b0 := decide_eq_true c19; clear c19
           by_cases c20 : x28_2 < (t193.length : Int)
           ·rw [if_pos c20] at H; have c20b0 := decide_eq_true c20; clear c20
            by_cases c21 : 0 ≤ (rd t193 x28_2)
            ·rw [if_pos c21] at H; have c21b0 := decide_eq_true c21; clear c21
             by_cases c22 : (rd t193 x28_2) < (t182.length : Int)
             ·rw [if_pos c22] at H; have c22b0 := decide_eq_true c22; clear c22
              by_cases c23 : (rd t182 (rd t193 x28_2)) = a1
              ·rw [if_pos c23] at H; have c23b0 : ((rd t182 (rd t193 x28_2)) == a1) = true := beq_iff_eq.mpr c23; have c23b1 : ((rd t182 (rd t193 x28_2)) != a1) = false := bne_eq_false_iff_eq.mpr c23; clear c23; have H' := Aside0.mk H; clear H; have p196 : 0 ≤ (x28_2 : Int) := of_decide_eq_true az; have q196 : x28_2 < (t193.length : Int) := of_decide_eq_true az; obtain ⟨ad196, e196, hx196_0⟩ := Kd.at_int (Kd.R_reads' HO_26.out).2.2 x28_2 p196 q196
               cases e196
               replace p196 := eq_true p196; replace q196 := eq_true q196; have p197 : 0 ≤ ((rd t193 x28_2) : Int) := of_decide_eq_true az; have q197 : (rd t193 x28_2) < (t182.length : Int) := of_decide_eq_true az; obtain ⟨ad197, e197, hx197_0⟩ := Kd.at_int (Kd.R_reads' HO_5.out).2.2 (rd t193 x28_2) p197 q197; obtain rfl : ad192 = ad197 := (by injection e197)
               replace p197 := eq_true p197; replace q197 := eq_true q197; go_wp2
               go_roundg k2
               case measure => have := HK1.out; have := HK2.out; omega
               case rel => exact ⟨(x6_2), (wrap64 (x28_2 + 1)), rz, H', ⟨by have := HK1.out; have := HK2.out; omega⟩, ⟨hr HO_5.out⟩, ⟨hr HO_6.out⟩, ⟨hr HO_26.out⟩, ⟨kz BK181⟩, ⟨bzs⟩⟩
              ·rw [if_neg c23] at H; have c23b0 : ((rd t182 (rd t193 x28_2)) == a1) = false := beq_eq_false_iff_ne.mpr c23; have c23b1 : ((rd t182 (rd t193 x28_2)) != a1) = true := bne_iff_ne.mpr c23
               by_cases c24 : x6_2.length < 17592186044416
               ·rw [if_pos c24] at H; have LMc24 := Aside0.mk c24; clear c24; obtain ⟨y199, hy199⟩ : ∃ y_ : List Int, y_ = (x6_2 ++ [rd t182 (rd t193 x28_2)]) := ⟨_, rfl⟩
                replace H : (impl_Neighbours.l1 k2 a1 t182 y199 (t182.length : Int) x15_1 t193 (t193.length : Int) (wrap64 (x28_2 + 1)) a0_0 a0_1 a0_2) = some r := by first | (rw [hy199]; with_reducible exact H) | (have H2_ := (Option.bind_some _ _).symm.trans H; rw [hy199]; with_reducible exact H2_) | (have H2_ := (Option.bind_some _ _).symm.trans H; with_reducible exact H2_) | with_reducible exact H | (rw [hy199]; exact H) | exact H
                have Ny199 := Aside0.mk hy199; clear hy199; have H' := Aside0.mk H; clear H; have p196 : 0 ≤ (x28_2 : Int) := of_decide_eq_true az; have q196 : x28_2 < (t193.length : Int) := of_decide_eq_true az; obtain ⟨ad196, e196, hx196_0⟩ := Kd.at_int (Kd.R_reads' HO_26.out).2.2 x28_2 p196 q196
                cases e196
                replace p196 := eq_true p196; replace q196 := eq_true q196; have p197 : 0 ≤ ((rd t193 x28_2) : Int) := of_decide_eq_true az; have q197 : (rd t193 x28_2) < (t182.length : Int) := of_decide_eq_true az; obtain ⟨ad197, e197, hx197_0⟩ := Kd.at_int (Kd.R_reads' HO_5.out).2.2 (rd t193 x28_2) p197 q197; obtain rfl : ad192 = ad197 := (by injection e197)
                replace p197 := eq_true p197; replace q197 := eq_true q197; have p198 : 0 ≤ ((rd t193 x28_2) : Int) := of_decide_eq_true az; have q198 : (rd t193 x28_2) < (t182.length : Int) := of_decide_eq_true az; obtain ⟨ad198, e198, hx198_0⟩ := Kd.at_int (Kd.R_reads' HO_5.out).2.2 (rd t193 x28_2) p198 q198; obtain rfl : ad192 = ad198 := (by injection e198)
                replace p198 := eq_true p198; replace q198 := eq_true q198; go_wp2_with (first | ((with_reducible refine gate_builtin (b := .append) (xs := #[.tmp 38, .tmp 43]) rfl ?_); at_builtin; refine Kd.R_append (Kd.int .i64) (w0 := w) w.heap.size rfl (.tmp 38) (.tmp 43) 29 3 (.int .i64 0) 8 rfl Try.underlying29 info3 rfl (by decide) (by omega) u6 x6_2 (rd t182 (rd t193 x28_2)) [.int .i64 (rd t182 (rd t193 x28_2))] (fun k_ => some k_ ≠ (.slice (some ad192) t182.length co9 : Value).ownBlock ∧ some k_ ≠ (.slice (some ad196) t193.length co17 : Value).ownBlock) (fun _ => False) rfl rfl ?aP (fun _ hk => hk.elim) ?aF ?aO ?aB ?aS ?aL ?_; (case aP => exact rfl); (case aB => exact bzs); (case aF => exact (fun k_ hk => ⟨Kd.fresh' (Kd.R_lt (hr HO_5.out)) k_ hk, Kd.fresh' (Kd.R_lt (hr HO_26.out)) k_ hk⟩)); (case aO => exact (hr HO_6.out)); (case aS => exact (below_size bzs)); (case aL => have := LMc24.out; omega); intro v200 w25 ho hb hg hat; rw [← Ny199.out] at ho; have n0_ := Aside0.mk (Kd.R_after (ok := (fun k_ => some k_ ≠ (.slice (some ad196) t193.length co17 : Value).ownBlock)) (hr (Kd.R_mono HO_5.out (fun _ hk => And.intro hk.2 hk.1))) hg hat); have n1_ := Aside0.mk (Kd.R_after (ok := (fun k_ => some k_ ≠ (.slice (some ad192) t182.length co9 : Value).ownBlock)) (hr HO_26.out) hg hat); have n2_ := Aside0.mk (blk_grown (g := gb181) (o := .cells #[.int .i64 a0_0, .int .i64 a0_1, .string a0_2] 26 (0, 0)) (kz BK181) hg (Kd.R_ne HO_6.out BK181.out (by decide))); have n3_ := Aside0.mk (hb); have n4_ := Aside0.mk (ho); clear HO_5; clear HO_26; clear BK181; clear HB; clear HO_6; have HO_5 := n0_; have HO_26 := n1_; have BK181 := n2_; have HB := n3_; have HO201 := n4_; clear n0_ n1_ n2_ n3_ n4_; clear ho hb hg hat))
                go_roundg k2
                case measure => have := HK1.out; have := HK2.out; omega
                case rel => exact ⟨(y199), (wrap64 (x28_2 + 1)), rz, H', ⟨by have := HK1.out; have := HK2.out; omega⟩, ⟨hr (Kd.R_mono HO_5.out (fun _ hk => And.intro hk.2 hk.1))⟩, ⟨hr HO201.out⟩, ⟨hr HO_26.out⟩, ⟨kz BK181⟩, ⟨bzs⟩⟩
               ·rw [if_neg c24] at H
                exact absurd H (by simp)
             ·rw [if_neg c22] at H
              exact absurd H (by simp)
            ·rw [if_neg c21] at H
             exact absurd H (by simp)
           ·rw [if_neg c20] at H
            exact absurd H (by simp)
          ·rw [if_neg c19] at H
           exact absurd H (by simp)
         ·rw [if_neg c18] at H; have c18b0 := decide_eq_false c18; clear c18; have H' := Aside0.mk H; clear H; go_wp2
          go_roundg k2
          case measure => have := HK1.out; have := HK2.out; omega
          case rel => exact ⟨(x6_2), (wrap64 (x15_1 + 1)), rz, H', ⟨by have := HK1.out; have := HK2.out; omega⟩, ⟨hr (Kd.R_mono HO_5.out (fun _ hk => hk.1))⟩, ⟨hr (Kd.R_mono HO_6.out (fun _ hk => hk.1))⟩, ⟨kz BK181⟩, ⟨bzs⟩⟩
      ·rw [if_neg c13] at H; have c13b0 : ((rd t182 x15_1) == a1) = false := beq_eq_false_iff_ne.mpr c13; have c13b1 : ((rd t182 x15_1) != a1) = true := bne_iff_ne.mpr c13; have H' := Aside0.mk H; clear H; have p192 : 0 ≤ (x15_1 : Int) := of_decide_eq_true az; have q192 : x15_1 < (t182.length : Int) := of_decide_eq_true az; obtain ⟨ad192, e192, hx192_0⟩ := Kd.at_int (Kd.R_reads' HO_5.out).2.2 x15_1 p192 q192
       cases e192
       replace p192 := eq_true p192; replace q192 := eq_true q192; go_wp2
       go_roundg k1
       case measure => have := HK1.out; omega
       case rel => exact ⟨(x6_1), (wrap64 (x15_1 + 1)), rz, H', ⟨by have := HK1.out; omega⟩, ⟨hr HO_5.out⟩, ⟨hr HO_6.out⟩, ⟨kz BK181⟩, ⟨bzs⟩⟩
     ·rw [if_neg c12] at H
      exact absurd H (by simp)
    ·rw [if_neg c11] at H
     exact absurd H (by simp)
   ·rw [if_neg c10] at H; have c10b0 := decide_eq_false c10; clear c10; replace H := Option.bind_eq_some_iff.mp H; obtain ⟨t188, A260, H⟩ := H; have A26 := Aside0.mk A260; clear A260; replace H := Option.bind_eq_some_iff.mp H; obtain ⟨t189, A270, H⟩ := H; have A27 := Aside0.mk A270; clear A270; obtain rfl := Option.some.inj H; obtain ⟨Ao28, co28, eo28⟩ := Kd.R_slice HO_6.out; subst eo28; go_wp2_with (first | ((with_reducible refine gt (some 48) rfl ?_); refine gc Try.func70 (slices_Sort_int_int.calls (fun k_ => some k_ = (.slice Ao28 x6_1.length co28 : Value).ownBlock) (.slice Ao28 x6_1.length co28) x6_1 t188 w _ (by repeat (first | (with_reducible first | exact HB.out | apply below_alloc | apply pw_below_drewN | apply below_drew1 | refine below_set ?_ GE181.out) | exact HB.out)) (Kd.R_tight rfl HO_6.out) A26.out) ?_; rintro e w29 ⟨rfl, hy0, hb, hkp⟩; refine ⟨_, rfl, ?_⟩; replace HO_5 := Aside0.mk (Kd.R_mono (ok' := fun k_ => some k_ ≠ (.slice Ao28 x6_1.length co28 : Value).ownBlock) (Kd.R_keptB (HO_5.out) hkp (fun k_ hk_ hs_ => absurd hs_ (by first | exact hk_ | exact hk_.1.2 | exact hk_.1.1 | exact hk_.1 | exact hk_.2 | exact hk_.1.1.2 | exact hk_))) (fun k_ hk_ => hk_.1)); replace BK181 := Aside0.mk (blk_kept (kz BK181) hkp (fun hs_ => (fun e_ => (Kd.R_ne HO_6.out BK181.out (by decide)) e_) hs_)); replace HO_6 := Aside0.mk (Kd.R_reok rfl hy0 (fun k_ e_ => HO_6.out.1 k_ e_)); replace HB := Aside0.mk (hb); (try clear hb); (try clear hkp); (try clear hy0)) | ((with_reducible refine gt (some 50) rfl ?_); refine gc Try.func71 (slices_Compact_int_int.calls (fun k_ => some k_ = (.slice Ao28 x6_1.length co28 : Value).ownBlock) (.slice Ao28 x6_1.length co28) t188 t189 w _ (by repeat (first | (with_reducible first | exact HB.out | apply below_alloc | apply pw_below_drewN | apply below_drew1 | refine below_set ?_ GE181.out) | exact HB.out)) (Kd.R_tight rfl HO_6.out) A27.out) ?_; rintro e w30 ⟨v190, rfl, ho0, hb, hkp⟩; refine ⟨_, rfl, ?_⟩; have n0_ := Aside0.mk (Kd.R_mono (ok' := fun k_ => some k_ ≠ (v190 : Value).ownBlock) (Kd.R_keptB (HO_5.out) hkp (fun k_ hk_ hs_ => absurd hs_ (by first | exact hk_ | exact hk_.1.2 | exact hk_.1.1 | exact hk_.1 | exact hk_.2 | exact hk_.1.1.2 | exact hk_))) (fun k_ hk_ => fun e_ => Or.elim (ho0.1 k_ e_.symm) (fun hs_ => hk_.2.1 hs_) (fun hn_ => Nat.not_le.2 hk_.2.2 hn_))); have n1_ := Aside0.mk (blk_kept (kz BK181) hkp (fun hs_ => (fun e_ => (Kd.R_ne HO_6.out BK181.out (by decide)) e_) hs_)); have n2_ := Aside0.mk (Kd.R_mono (ok' := fun k_ => some k_ ≠ (.slice Ao9 t182.length co9 : Value).ownBlock) ho0 (fun k_ hk_ => Or.elim hk_ (fun hs_ => fun e_ => (((HO_5.out).1 k_ e_.symm)) hs_) (fun hn_ => (Kd.fresh' (Kd.R_lt (hr HO_5.out)) k_ hn_)))); have n3_ := Aside0.mk (hb); clear HO_5; clear BK181; clear HB; clear HO_6; have HO_5 := n0_; have BK181 := n1_; have HO191 := n2_; have HB := n3_; clear n0_ n1_ n2_ n3_; (try clear hb); (try clear hkp); (try clear ho0)))
    go_ret
    exact ⟨_, ez, hr (Kd.R_mono HO191.out (fun _ hk => trivial)), bzs⟩

end Go.Proofs.Ythodhcalknelcaa.PFnMerged
