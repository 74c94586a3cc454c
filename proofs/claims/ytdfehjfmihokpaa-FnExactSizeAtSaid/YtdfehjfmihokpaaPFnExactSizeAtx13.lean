-- Written by a program of this session's: the kit's print, turned (turnprint.py): functions, and that Go comes to just their answers.
import Derived.Test.YtdfehjfmihokpaaZ
import Derived.Test.YtdfehjfmihokpaaPFnExactSizeAtx0
import Derived.Test.YtdfehjfmihokpaaPFnExactSizeAtx1
import Derived.Test.YtdfehjfmihokpaaPFnExactSizeAtx12
namespace Go.Proofs.Ytdfehjfmihokpaa.PFnExactSizeAt
open Go.RowKit Go.Proofs.YtdfehjfmihokpaaW.PrintWords Go.Proofs.YtdfehjfmihokpaaW.PrintLast Go.Proofs.YtdfehjfmihokpaaW.PrintMore Go.Proofs.YtdfehjfmihokpaaGeo Go.Proofs.YtdfehjfmihokpaaHand Go.Proofs.YtdfehjfmihokpaaZ
attribute [local go_sem] max2_int min2_int max_two min_two max_three min_three max_four min_four   -- for this text's walks alone
set_option linter.unusedVariables false
set_option linter.unusedSimpArgs false

attribute [local go_sem high] eqA82
/-! ### impl_HowMeet: function 152 -/
mutual
def impl_HowMeet.j0 : Nat → Bool → Int → Int → Int → Int → Int → Int → Int → Int → Option (Int)
 | 0, _, _, _, _, _, _, _, _, _ => none
 | k + 1, x16, x242000, x242001, x242002, x242003, x243000, x243001, x243002, x243003 => if x16 = true then (some 0) else ((impl_SideOf.f x242000 x242001 x242002 x242003 x243000 x243001).bind fun t245 => ((impl_SideOf.f x242000 x242001 x242002 x242003 x243002 x243003).bind fun t246 => (if t245 = 0 then (impl_HowMeet.j1 k t245 t246 (t246 == 0) x242000 x242001 x242002 x242003 x243000 x243001 x243002 x243003) else (impl_HowMeet.j1 k t245 t246 false x242000 x242001 x242002 x242003 x243000 x243001 x243002 x243003))))
def impl_HowMeet.j1 : Nat → Int → Int → Bool → Int → Int → Int → Int → Int → Int → Int → Int → Option (Int)
 | 0, _, _, _, _, _, _, _, _, _, _, _ => none
 | k + 1, x5, x6, x36, x242000, x242001, x242002, x242003, x243000, x243001, x243002, x243003 => if x36 = true then ((impl_forward.f x242000 x242001 x242002 x242003).bind fun bt247 => ((impl_forward.f x243000 x243001 x243002 x243003).bind fun bt251 => ((impl_BeforePoint.f bt247.1 bt247.2.1 bt251.1 bt251.2.1).bind fun t257 => (if t257 = true then (impl_HowMeet.j2 k bt251.1 bt251.2.1 bt251.2.2.1 bt251.2.2.2 bt251.1 bt251.2.1 bt247.2.2.1 bt247.2.2.2) else (impl_HowMeet.j2 k bt251.1 bt251.2.1 bt251.2.2.1 bt251.2.2.2 bt247.1 bt247.2.1 bt247.2.2.1 bt247.2.2.2))))) else (if (wrap64 (x5 * x6)) < 0 then ((impl_SideOf.f x243000 x243001 x243002 x243003 x242000 x242001).bind fun t260 => ((impl_SideOf.f x243000 x243001 x243002 x243003 x242002 x242003).bind fun t261 => (impl_HowMeet.j4 k (decide ((wrap64 (t260 * t261)) < 0)) x242000 x242001 x242002 x242003 x243000 x243001 x243002 x243003))) else (impl_HowMeet.j4 k false x242000 x242001 x242002 x242003 x243000 x243001 x243002 x243003))
def impl_HowMeet.j2 : Nat → Int → Int → Int → Int → Int → Int → Int → Int → Option (Int)
 | 0, _, _, _, _, _, _, _, _ => none
 | k + 1, x243000, x243001, x243002, x243003, x256000, x256001, x257000, x257001 => (impl_BeforePoint.f x243002 x243003 x257000 x257001).bind fun t258 => (if t258 = true then (impl_HowMeet.j3 k x256000 x256001 x243002 x243003) else (impl_HowMeet.j3 k x256000 x256001 x257000 x257001))
def impl_HowMeet.j3 : Nat → Int → Int → Int → Int → Option (Int)
 | 0, _, _, _, _ => none
 | k + 1, x256000, x256001, x257000, x257001 => (impl_BeforePoint.f x257000 x257001 x256000 x256001).bind fun t259 => (if t259 = true then (some 0) else (if (x256000 == x257000 && (x256001 == x257001)) = true then (some 1) else (some 3)))
def impl_HowMeet.j4 : Nat → Bool → Int → Int → Int → Int → Int → Int → Int → Int → Option (Int)
 | 0, _, _, _, _, _, _, _, _, _ => none
 | k + 1, x86, x242000, x242001, x242002, x242003, x243000, x243001, x243002, x243003 => if x86 = true then (some 2) else ((impl_IsOn.f x242000 x242001 x242002 x242003 x243000 x243001).bind fun t262 => (if t262 = true then (some 1) else ((impl_IsOn.f x242000 x242001 x242002 x242003 x243002 x243003).bind fun t263 => (if t263 = true then (some 1) else ((impl_IsOn.f x243000 x243001 x243002 x243003 x242000 x242001).bind fun t264 => (if t264 = true then (some 1) else ((impl_IsOn.f x243000 x243001 x243002 x243003 x242002 x242003).bind fun t265 => (if t265 = true then (some 1) else (some 0)))))))))
end
def impl_HowMeet.f (k : Nat) (a0_0 : Int) (a0_1 : Int) (a0_2 : Int) (a0_3 : Int) (a1_0 : Int) (a1_1 : Int) (a1_2 : Int) (a1_3 : Int) : Option (Int) := (impl_IsSegment.f a0_0 a0_1 a0_2 a0_3).bind fun t243 => (if t243 = true then ((impl_IsSegment.f a1_0 a1_1 a1_2 a1_3).bind fun t244 => (impl_HowMeet.j0 k (!t244) a0_0 a0_1 a0_2 a0_3 a1_0 a1_1 a1_2 a1_3)) else (impl_HowMeet.j0 k true a0_0 a0_1 a0_2 a0_3 a1_0 a1_1 a1_2 a1_3))
theorem impl_HowMeet.mono_l : ∀ k, (∀ y0 y1 y2 y3 y4 y5 y6 y7 y8, LeO (impl_HowMeet.j0 k y0 y1 y2 y3 y4 y5 y6 y7 y8) (impl_HowMeet.j0 (k + 1) y0 y1 y2 y3 y4 y5 y6 y7 y8)) ∧ (∀ y0 y1 y2 y3 y4 y5 y6 y7 y8 y9 y10, LeO (impl_HowMeet.j1 k y0 y1 y2 y3 y4 y5 y6 y7 y8 y9 y10) (impl_HowMeet.j1 (k + 1) y0 y1 y2 y3 y4 y5 y6 y7 y8 y9 y10)) ∧ (∀ y0 y1 y2 y3 y4 y5 y6 y7, LeO (impl_HowMeet.j2 k y0 y1 y2 y3 y4 y5 y6 y7) (impl_HowMeet.j2 (k + 1) y0 y1 y2 y3 y4 y5 y6 y7)) ∧ (∀ y0 y1 y2 y3, LeO (impl_HowMeet.j3 k y0 y1 y2 y3) (impl_HowMeet.j3 (k + 1) y0 y1 y2 y3)) ∧ (∀ y0 y1 y2 y3 y4 y5 y6 y7 y8, LeO (impl_HowMeet.j4 k y0 y1 y2 y3 y4 y5 y6 y7 y8) (impl_HowMeet.j4 (k + 1) y0 y1 y2 y3 y4 y5 y6 y7 y8))
 | 0 => ⟨fun _ _ _ _ _ _ _ _ _ r h => by simp [impl_HowMeet.j0] at h, fun _ _ _ _ _ _ _ _ _ _ _ r h => by simp [impl_HowMeet.j1] at h, fun _ _ _ _ _ _ _ _ r h => by simp [impl_HowMeet.j2] at h, fun _ _ _ _ r h => by simp [impl_HowMeet.j3] at h, fun _ _ _ _ _ _ _ _ _ r h => by simp [impl_HowMeet.j4] at h⟩
 | k + 1 => by
  obtain ⟨ih0, ih1, ih2, ih3, ih4⟩ := impl_HowMeet.mono_l k
  refine ⟨?_, ?_, ?_, ?_, ?_⟩
  ·intro y0 y1 y2 y3 y4 y5 y6 y7 y8
   unfold impl_HowMeet.j0
   repeat' first
   | (with_reducible exact ih0 _ _ _ _ _ _ _ _ _)
   | (with_reducible exact ih1 _ _ _ _ _ _ _ _ _ _ _)
   | (with_reducible exact ih2 _ _ _ _ _ _ _ _)
   | (with_reducible exact ih3 _ _ _ _)
   | (with_reducible exact ih4 _ _ _ _ _ _ _ _ _)
   | (with_reducible exact LeO.refl _)
   | (with_reducible exact LeO.none _)
   | (with_reducible refine LeO.ite ?_ ?_)
   | (with_reducible refine LeO.bind ?_ (fun _ => ?_))
   | exact ih0 _ _ _ _ _ _ _ _ _
   | exact ih1 _ _ _ _ _ _ _ _ _ _ _
   | exact ih2 _ _ _ _ _ _ _ _
   | exact ih3 _ _ _ _
   | exact ih4 _ _ _ _ _ _ _ _ _
   | exact LeO.none _
   | refine LeO.ite ?_ ?_
   | refine LeO.bind ?_ (fun _ => ?_)
  ·intro y0 y1 y2 y3 y4 y5 y6 y7 y8 y9 y10
   unfold impl_HowMeet.j1
   repeat' first
   | (with_reducible exact ih0 _ _ _ _ _ _ _ _ _)
   | (with_reducible exact ih1 _ _ _ _ _ _ _ _ _ _ _)
   | (with_reducible exact ih2 _ _ _ _ _ _ _ _)
   | (with_reducible exact ih3 _ _ _ _)
   | (with_reducible exact ih4 _ _ _ _ _ _ _ _ _)
   | (with_reducible exact LeO.refl _)
   | (with_reducible exact LeO.none _)
   | (with_reducible refine LeO.ite ?_ ?_)
   | (with_reducible refine LeO.bind ?_ (fun _ => ?_))
   | exact ih0 _ _ _ _ _ _ _ _ _
   | exact ih1 _ _ _ _ _ _ _ _ _ _ _
   | exact ih2 _ _ _ _ _ _ _ _
   | exact ih3 _ _ _ _
   | exact ih4 _ _ _ _ _ _ _ _ _
   | exact LeO.none _
   | refine LeO.ite ?_ ?_
   | refine LeO.bind ?_ (fun _ => ?_)
  ·intro y0 y1 y2 y3 y4 y5 y6 y7
   unfold impl_HowMeet.j2
   repeat' first
   | (with_reducible exact ih0 _ _ _ _ _ _ _ _ _)
   | (with_reducible exact ih1 _ _ _ _ _ _ _ _ _ _ _)
   | (with_reducible exact ih2 _ _ _ _ _ _ _ _)
   | (with_reducible exact ih3 _ _ _ _)
   | (with_reducible exact ih4 _ _ _ _ _ _ _ _ _)
   | (with_reducible exact LeO.refl _)
   | (with_reducible exact LeO.none _)
   | (with_reducible refine LeO.ite ?_ ?_)
   | (with_reducible refine LeO.bind ?_ (fun _ => ?_))
   | exact ih0 _ _ _ _ _ _ _ _ _
   | exact ih1 _ _ _ _ _ _ _ _ _ _ _
   | exact ih2 _ _ _ _ _ _ _ _
   | exact ih3 _ _ _ _
   | exact ih4 _ _ _ _ _ _ _ _ _
   | exact LeO.none _
   | refine LeO.ite ?_ ?_
   | refine LeO.bind ?_ (fun _ => ?_)
  ·intro y0 y1 y2 y3
   unfold impl_HowMeet.j3
   repeat' first
   | (with_reducible exact ih0 _ _ _ _ _ _ _ _ _)
   | (with_reducible exact ih1 _ _ _ _ _ _ _ _ _ _ _)
   | (with_reducible exact ih2 _ _ _ _ _ _ _ _)
   | (with_reducible exact ih3 _ _ _ _)
   | (with_reducible exact ih4 _ _ _ _ _ _ _ _ _)
   | (with_reducible exact LeO.refl _)
   | (with_reducible exact LeO.none _)
   | (with_reducible refine LeO.ite ?_ ?_)
   | (with_reducible refine LeO.bind ?_ (fun _ => ?_))
   | exact ih0 _ _ _ _ _ _ _ _ _
   | exact ih1 _ _ _ _ _ _ _ _ _ _ _
   | exact ih2 _ _ _ _ _ _ _ _
   | exact ih3 _ _ _ _
   | exact ih4 _ _ _ _ _ _ _ _ _
   | exact LeO.none _
   | refine LeO.ite ?_ ?_
   | refine LeO.bind ?_ (fun _ => ?_)
  ·intro y0 y1 y2 y3 y4 y5 y6 y7 y8
   unfold impl_HowMeet.j4
   repeat' first
   | (with_reducible exact ih0 _ _ _ _ _ _ _ _ _)
   | (with_reducible exact ih1 _ _ _ _ _ _ _ _ _ _ _)
   | (with_reducible exact ih2 _ _ _ _ _ _ _ _)
   | (with_reducible exact ih3 _ _ _ _)
   | (with_reducible exact ih4 _ _ _ _ _ _ _ _ _)
   | (with_reducible exact LeO.refl _)
   | (with_reducible exact LeO.none _)
   | (with_reducible refine LeO.ite ?_ ?_)
   | (with_reducible refine LeO.bind ?_ (fun _ => ?_))
   | exact ih0 _ _ _ _ _ _ _ _ _
   | exact ih1 _ _ _ _ _ _ _ _ _ _ _
   | exact ih2 _ _ _ _ _ _ _ _
   | exact ih3 _ _ _ _
   | exact ih4 _ _ _ _ _ _ _ _ _
   | exact LeO.none _
   | refine LeO.ite ?_ ?_
   | refine LeO.bind ?_ (fun _ => ?_)
theorem impl_HowMeet.mono : ∀ a0 a1 a2 a3 a4 a5 a6 a7 k, LeO (impl_HowMeet.f k a0 a1 a2 a3 a4 a5 a6 a7) (impl_HowMeet.f (k + 1) a0 a1 a2 a3 a4 a5 a6 a7) := by
 intro a0 a1 a2 a3 a4 a5 a6 a7 k
 obtain ⟨ih0, ih1, ih2, ih3, ih4⟩ := impl_HowMeet.mono_l k
 unfold impl_HowMeet.f
 repeat' first
   | (with_reducible exact ih0 _ _ _ _ _ _ _ _ _)
   | (with_reducible exact ih1 _ _ _ _ _ _ _ _ _ _ _)
   | (with_reducible exact ih2 _ _ _ _ _ _ _ _)
   | (with_reducible exact ih3 _ _ _ _)
   | (with_reducible exact ih4 _ _ _ _ _ _ _ _ _)
   | (with_reducible exact LeO.refl _)
   | (with_reducible exact LeO.none _)
   | (with_reducible refine LeO.ite ?_ ?_)
   | (with_reducible refine LeO.bind ?_ (fun _ => ?_))
   | exact ih0 _ _ _ _ _ _ _ _ _
   | exact ih1 _ _ _ _ _ _ _ _ _ _ _
   | exact ih2 _ _ _ _ _ _ _ _
   | exact ih3 _ _ _ _
   | exact ih4 _ _ _ _ _ _ _ _ _
   | exact LeO.none _
   | refine LeO.ite ?_ ?_
   | refine LeO.bind ?_ (fun _ => ?_)
def impl_HowMeet.T3 : Bool × List (List Nat × List Nat) := (true, [([], []), ([0], [0]), ([], []), ([2], [2]), ([], []), ([4], [4]), ([1, 3, 5], [1, 3, 5]), ([], []), ([7], [7]), ([], []), ([9], [9]), ([], []), ([11], [11]), ([8, 10, 12, 6], [8, 10, 12]), ([6, 13, 0, 1, 2, 3, 4, 5, 6], [6]), ([13, 14, 0, 1, 2, 3, 4, 5, 6, 7, 8, 9, 10, 11, 12, 13, 14], [13])])
def impl_HowMeet.B3 : List Nat := [0, 1, 0, 4, 0, 16, 63, 0, 128, 0, 512, 0, 2048, 8191, 16383, 32767]
theorem impl_HowMeet.tab3 : rtab .any (opsOf Try.f152 3) = impl_HowMeet.T3 := by kernel_rfl
theorem impl_HowMeet.bits3 : waitsOk impl_HowMeet.T3.2 impl_HowMeet.B3 = true := by kernel_rfl
def impl_HowMeet.T6 : Bool × List (List Nat × List Nat) := (true, [([], []), ([0], [0]), ([], []), ([2], [2]), ([], []), ([], []), ([4, 1, 0, 1, 4, 5], [1, 4]), ([5, 3, 6, 0, 1, 2, 3, 4, 5, 6], [3, 5])])
def impl_HowMeet.B6 : List Nat := [0, 1, 0, 4, 0, 0, 51, 127]
theorem impl_HowMeet.tab6 : rtab .any (opsOf Try.f152 6) = impl_HowMeet.T6 := by kernel_rfl
theorem impl_HowMeet.bits6 : waitsOk impl_HowMeet.T6.2 impl_HowMeet.B6 = true := by kernel_rfl
def impl_HowMeet.T16 : Bool × List (List Nat × List Nat) := (true, [([], []), ([], []), ([0, 1], [0, 1]), ([2], [2]), ([3], [3]), ([4], [4]), ([5, 4], [4, 5]), ([4], [4]), ([7, 4], [4, 7]), ([4], [4]), ([9, 4], [4, 9]), ([6, 8, 10, 4, 4], [4, 6, 8, 10]), ([4], [4]), ([12, 4], [4, 12]), ([4], [4]), ([14, 4], [4, 14]), ([4], [4]), ([16, 4], [4, 16]), ([13, 15, 17, 11, 4], [4, 13, 15, 17]), ([11, 18, 4], [4, 11, 18]), ([19, 4], [4, 19]), ([4, 20], [4, 20])])
def impl_HowMeet.B16 : List Nat := [0, 0, 3, 7, 15, 31, 63, 31, 159, 31, 543, 2047, 31, 4127, 31, 16415, 31, 65567, 262143, 524287, 1048575, 2097151]
theorem impl_HowMeet.tab16 : rtab .any (opsOf Try.f152 16) = impl_HowMeet.T16 := by kernel_rfl
theorem impl_HowMeet.bits16 : waitsOk impl_HowMeet.T16.2 impl_HowMeet.B16 = true := by kernel_rfl
set_option maxHeartbeats 8000000 in
set_option maxRecDepth 100000 in
theorem impl_HowMeet.calls (k : Nat) (a0_0 : Int) (a0_1 : Int) (a0_2 : Int) (a0_3 : Int) (a1_0 : Int) (a1_1 : Int) (a1_2 : Int) (a1_3 : Int) (r : Int) (w : World) (h : impl_HowMeet.f k a0_0 a0_1 a0_2 a0_3 a1_0 a1_1 a1_2 a1_3 = some r) :
  Calls Try.prog 152 #[.agg #[.int .i64 a0_0, .int .i64 a0_1, .int .i64 a0_2, .int .i64 a0_3], .agg #[.int .i64 a1_0, .int .i64 a1_1, .int .i64 a1_2, .int .i64 a1_3]] w fun e w' => e = .returned (.int .i64 r) ∧ Below w.heap.size w w' := by
 have hu85 := Try.underlying85
 have hu82 := Try.underlying82
 have HB := Aside0.mk (Below.refl w.heap.size w)
 have H : ((impl_IsSegment.f a0_0 a0_1 a0_2 a0_3).bind fun t243 => (if t243 = true then ((impl_IsSegment.f a1_0 a1_1 a1_2 a1_3).bind fun t244 => (impl_HowMeet.j0 k (!t244) a0_0 a0_1 a0_2 a0_3 a1_0 a1_1 a1_2 a1_3)) else (impl_HowMeet.j0 k true a0_0 a0_1 a0_2 a0_3 a1_0 a1_1 a1_2 a1_3))) = some r := h
 clear h
 have HC3 := Aside0.mk H
 clear H
 go_enter Try.func152, Try.ntmps152
 go_upto_region 1 with (first | ((with_reducible refine gate_dst (N := 2) rfl ?_); refine box_event ?hg (N := 2) ?hd (cs := #[.int .i64 a0_0, .int .i64 a0_1, .int .i64 a0_2, .int .i64 a0_3]) (t := 85) ?hr ?_; (case hd => rfl); (case hg => rfl); (case hr => first | (go_simp; done) | (go_simp; rfl)); intro gb241 hg w4 hbox hb; have BK241 := Aside0.mk (hbox); have GW241 := Aside0.mk ((by rw [hg]; exact (below_size bz) : w.heap.size ≤ gb241)); have GE241 := Aside0.mk ((by rw [hg]; exact (below_size bz) : w.heap.size ≤ gb241)); replace HB := Aside0.mk (below_step bz hb); clear hb hbox hg) | ((with_reducible refine gate_dst (N := 3) rfl ?_); refine box_event ?hg (N := 3) ?hd (cs := #[.int .i64 a1_0, .int .i64 a1_1, .int .i64 a1_2, .int .i64 a1_3]) (t := 85) ?hr ?_; (case hd => rfl); (case hg => rfl); (case hr => first | (go_simp; done) | (go_simp; rfl)); intro gb242 hg w5 hbox hb; have BK242 := Aside0.mk (hbox); have GW242 := Aside0.mk ((by rw [hg]; exact (below_size bzs) : w.heap.size ≤ gb242)); have GE242 := Aside0.mk ((by rw [hg]; exact (below_size bzs) : w.heap.size ≤ gb242)); replace HB := Aside0.mk (below_step bzs hb); have NB241_242 := Aside0.mk ((by rw [hg]; exact Nat.ne_of_lt (blk_lt (g := gb241) (o := .cells #[.int .i64 a0_0, .int .i64 a0_1, .int .i64 a0_2, .int .i64 a0_3] 85 (0, 0)) (kz BK241)) : gb241 ≠ gb242)); have NB242_241 := Aside0.mk ((by rw [hg]; exact Nat.ne_of_gt (blk_lt (g := gb241) (o := .cells #[.int .i64 a0_0, .int .i64 a0_1, .int .i64 a0_2, .int .i64 a0_3] 85 (0, 0)) (kz BK241)) : gb242 ≠ gb241)); replace BK241 := Aside0.mk (blk_below (g := gb241) (o := .cells #[.int .i64 a0_0, .int .i64 a0_1, .int .i64 a0_2, .int .i64 a0_3] 85 (0, 0)) (kz BK241) hb); clear hb hbox hg))
 (try simp only [Act.put, List.setIfInBounds_toArray, List.set_cons_zero, List.set_cons_succ])
 go_cut [16] (fun v16 wc => ∃ (kq : Nat) (x16_2 : Bool), v16 = .bool x16_2 ∧ Aside0 (impl_HowMeet.j0 kq x16_2 a0_0 a0_1 a0_2 a0_3 a1_0 a1_1 a1_2 a1_3 = some r) ∧ Aside0 (kq ≤ k) ∧ Aside0 (wc.heap[gb241]? = some (.cells #[.int .i64 a0_0, .int .i64 a0_1, .int .i64 a0_2, .int .i64 a0_3] 85 (0, 0))) ∧ Aside0 (wc.heap[gb242]? = some (.cells #[.int .i64 a1_0, .int .i64 a1_1, .int .i64 a1_2, .int .i64 a1_3] 85 (0, 0))) ∧ Aside0 (Below w.heap.size w wc))
 case first =>
  have H := HC3.out
  clear HC3
  replace H := Option.bind_eq_some_iff.mp H
  obtain ⟨t243, A60, H⟩ := H
  replace H : (if t243 = true then ((impl_IsSegment.f a1_0 a1_1 a1_2 a1_3).bind fun t244 => (impl_HowMeet.j0 k (!t244) a0_0 a0_1 a0_2 a0_3 a1_0 a1_1 a1_2 a1_3)) else (impl_HowMeet.j0 k true a0_0 a0_1 a0_2 a0_3 a1_0 a1_1 a1_2 a1_3)) = some r := H
  have A6 := Aside0.mk A60
  clear A60
  by_cases c7 : t243 = true
  ·subst c7
   have H1 : ((impl_IsSegment.f a1_0 a1_1 a1_2 a1_3).bind fun t244 => (impl_HowMeet.j0 k (!t244) a0_0 a0_1 a0_2 a0_3 a1_0 a1_1 a1_2 a1_3)) = some r := by rw [if_pos rfl] at H; exact H
   clear H
   have H := H1
   clear H1
   replace H := Option.bind_eq_some_iff.mp H
   obtain ⟨t244, A80, H⟩ := H
   replace H : (impl_HowMeet.j0 k (!t244) a0_0 a0_1 a0_2 a0_3 a1_0 a1_1 a1_2 a1_3) = some r := H
   have A8 := Aside0.mk A80
   clear A80
   have H' := Aside0.mk H
   clear H
   have hnb9 := NB241_242.out
   have hnc9 := NB242_241.out
   have hcz10_0 : w5.cell? ⟨gb241, 0, none⟩ = some (.int .i64 a0_0) := (blk_cell BK241.out 0).trans rfl
   have hcz10_1 : w5.cell? ⟨gb241, 1, none⟩ = some (.int .i64 a0_1) := (blk_cell BK241.out 1).trans rfl
   have hcz10_2 : w5.cell? ⟨gb241, 2, none⟩ = some (.int .i64 a0_2) := (blk_cell BK241.out 2).trans rfl
   have hcz10_3 : w5.cell? ⟨gb241, 3, none⟩ = some (.int .i64 a0_3) := (blk_cell BK241.out 3).trans rfl
   have hfz10_0 := blk_frozen BK241.out 0
   have hfz10_1 := blk_frozen BK241.out 1
   have hfz10_2 := blk_frozen BK241.out 2
   have hfz10_3 := blk_frozen BK241.out 3
   go_wp2_with (first | ((with_reducible refine gate_callee (f := 151) rfl ?_); refine gl (some 10) Try.func151 #[.agg #[.int .i64 a0_0, .int .i64 a0_1, .int .i64 a0_2, .int .i64 a0_3]] ?_; (with_reducible refine (impl_IsSegment.calls a0_0 a0_1 a0_2 a0_3 true _ A6.out).mono ?_); rintro e w11 ⟨rfl, hb⟩; refine ⟨_, rfl, ?_⟩; replace BK241 := Aside0.mk (blk_below (g := gb241) (o := .cells #[.int .i64 a0_0, .int .i64 a0_1, .int .i64 a0_2, .int .i64 a0_3] 85 (0, 0)) (kz BK241) hb); replace BK242 := Aside0.mk (blk_below (g := gb242) (o := .cells #[.int .i64 a1_0, .int .i64 a1_1, .int .i64 a1_2, .int .i64 a1_3] 85 (0, 0)) (kz BK242) hb); replace HB := Aside0.mk (below_step bzs hb); (try clear hb); have hcz12_0 : w11.cell? ⟨gb242, 0, none⟩ = some (.int .i64 a1_0) := (blk_cell BK242.out 0).trans rfl; have hcz12_1 : w11.cell? ⟨gb242, 1, none⟩ = some (.int .i64 a1_1) := (blk_cell BK242.out 1).trans rfl; have hcz12_2 : w11.cell? ⟨gb242, 2, none⟩ = some (.int .i64 a1_2) := (blk_cell BK242.out 2).trans rfl; have hcz12_3 : w11.cell? ⟨gb242, 3, none⟩ = some (.int .i64 a1_3) := (blk_cell BK242.out 3).trans rfl; have hfz12_0 := blk_frozen BK242.out 0; have hfz12_1 := blk_frozen BK242.out 1; have hfz12_2 := blk_frozen BK242.out 2; have hfz12_3 := blk_frozen BK242.out 3) | (go_at_call 151; (with_reducible refine (impl_IsSegment.calls a1_0 a1_1 a1_2 a1_3 t244 _ A8.out).mono ?_); rintro e w13 ⟨rfl, hb⟩; replace BK241 := Aside0.mk (blk_below (g := gb241) (o := .cells #[.int .i64 a0_0, .int .i64 a0_1, .int .i64 a0_2, .int .i64 a0_3] 85 (0, 0)) (kz BK241) hb); replace BK242 := Aside0.mk (blk_below (g := gb242) (o := .cells #[.int .i64 a1_0, .int .i64 a1_1, .int .i64 a1_2, .int .i64 a1_3] 85 (0, 0)) (kz BK242) hb); replace HB := Aside0.mk (below_step bzs hb); (try clear hb)))
   go_meet
   case rel => exact ⟨_, (!t244), rz, H', ⟨qz⟩, ⟨kz BK241⟩, ⟨kz BK242⟩, ⟨bzs⟩⟩
  ·replace c7 := Bool.eq_false_iff.mpr c7
   subst c7
   have H1 : (impl_HowMeet.j0 k true a0_0 a0_1 a0_2 a0_3 a1_0 a1_1 a1_2 a1_3) = some r := by rw [if_neg (show ¬ (false = true) by decide)] at H; exact H
   clear H
   have H := H1
   clear H1
   have H' := Aside0.mk H
   clear H
   have hnb14 := NB241_242.out
   have hnc14 := NB242_241.out
   have hcz15_0 : w5.cell? ⟨gb241, 0, none⟩ = some (.int .i64 a0_0) := (blk_cell BK241.out 0).trans rfl
   have hcz15_1 : w5.cell? ⟨gb241, 1, none⟩ = some (.int .i64 a0_1) := (blk_cell BK241.out 1).trans rfl
   have hcz15_2 : w5.cell? ⟨gb241, 2, none⟩ = some (.int .i64 a0_2) := (blk_cell BK241.out 2).trans rfl
   have hcz15_3 : w5.cell? ⟨gb241, 3, none⟩ = some (.int .i64 a0_3) := (blk_cell BK241.out 3).trans rfl
   have hfz15_0 := blk_frozen BK241.out 0
   have hfz15_1 := blk_frozen BK241.out 1
   have hfz15_2 := blk_frozen BK241.out 2
   have hfz15_3 := blk_frozen BK241.out 3
   go_wp2_with (first | ((with_reducible refine gate_callee (f := 151) rfl ?_); refine gl (some 10) Try.func151 #[.agg #[.int .i64 a0_0, .int .i64 a0_1, .int .i64 a0_2, .int .i64 a0_3]] ?_; (with_reducible refine (impl_IsSegment.calls a0_0 a0_1 a0_2 a0_3 false _ A6.out).mono ?_); rintro e w16 ⟨rfl, hb⟩; refine ⟨_, rfl, ?_⟩; replace BK241 := Aside0.mk (blk_below (g := gb241) (o := .cells #[.int .i64 a0_0, .int .i64 a0_1, .int .i64 a0_2, .int .i64 a0_3] 85 (0, 0)) (kz BK241) hb); replace BK242 := Aside0.mk (blk_below (g := gb242) (o := .cells #[.int .i64 a1_0, .int .i64 a1_1, .int .i64 a1_2, .int .i64 a1_3] 85 (0, 0)) (kz BK242) hb); replace HB := Aside0.mk (below_step bzs hb); (try clear hb)))
   go_meet
   case rel => exact ⟨_, (true), rz, H', ⟨qz⟩, ⟨kz BK241⟩, ⟨kz BK242⟩, ⟨bzs⟩⟩
 case rest =>
  clear HC3
  try clear c1
  try clear p2
  try clear c7
  try clear c9
  try clear c14
  try clear c15
  try clear hcz10_0
  try clear hcz10_1
  try clear hcz10_2
  try clear hcz10_3
  try clear hcz12_0
  try clear hcz12_1
  try clear hcz12_2
  try clear hcz12_3
  try clear hcz15_0
  try clear hcz15_1
  try clear hcz15_2
  try clear hcz15_3
  try clear hfz10_0
  try clear hfz10_1
  try clear hfz10_2
  try clear hfz10_3
  try clear hfz12_0
  try clear hfz12_1
  try clear hfz12_2
  try clear hfz12_3
  try clear hfz15_0
  try clear hfz15_1
  try clear hfz15_2
  try clear hfz15_3
  obtain ⟨kq, x16_2, rfl, HA, HJ2, BK241, BK242, HB⟩ := hcut
  cases kq with
  | zero => exact absurd HA.out (by simp [impl_HowMeet.j0])
  | succ kj2 =>
   have H := HA.out
   clear HA
   simp only [impl_HowMeet.j0] at H
   by_cases c17 : x16_2 = true
   ·subst c17
    have H1 : (some 0) = some r := by rw [if_pos rfl] at H; exact H
    clear H
    have H := H1
    clear H1
    obtain rfl := Option.some.inj H
    go_wp2
    go_ret
    exact ⟨ez, bzs⟩
   ·replace c17 := Bool.eq_false_iff.mpr c17
    subst c17
    have H1 : ((impl_SideOf.f a0_0 a0_1 a0_2 a0_3 a1_0 a1_1).bind fun t245 => ((impl_SideOf.f a0_0 a0_1 a0_2 a0_3 a1_2 a1_3).bind fun t246 => (if t245 = 0 then (impl_HowMeet.j1 kj2 t245 t246 (t246 == 0) a0_0 a0_1 a0_2 a0_3 a1_0 a1_1 a1_2 a1_3) else (impl_HowMeet.j1 kj2 t245 t246 false a0_0 a0_1 a0_2 a0_3 a1_0 a1_1 a1_2 a1_3)))) = some r := by rw [if_neg (show ¬ (false = true) by decide)] at H; exact H
    clear H
    have H := H1
    clear H1
    replace H := Option.bind_eq_some_iff.mp H
    obtain ⟨t245, A180, H⟩ := H
    replace H : ((impl_SideOf.f a0_0 a0_1 a0_2 a0_3 a1_2 a1_3).bind fun t246 => (if t245 = 0 then (impl_HowMeet.j1 kj2 t245 t246 (t246 == 0) a0_0 a0_1 a0_2 a0_3 a1_0 a1_1 a1_2 a1_3) else (impl_HowMeet.j1 kj2 t245 t246 false a0_0 a0_1 a0_2 a0_3 a1_0 a1_1 a1_2 a1_3))) = some r := H
    have A18 := Aside0.mk A180
    clear A180
    replace H := Option.bind_eq_some_iff.mp H
    obtain ⟨t246, A190, H⟩ := H
    replace H : (if t245 = 0 then (impl_HowMeet.j1 kj2 t245 t246 (t246 == 0) a0_0 a0_1 a0_2 a0_3 a1_0 a1_1 a1_2 a1_3) else (impl_HowMeet.j1 kj2 t245 t246 false a0_0 a0_1 a0_2 a0_3 a1_0 a1_1 a1_2 a1_3)) = some r := H
    have A19 := Aside0.mk A190
    clear A190
    have HC20 := Aside0.mk H
    clear H
    try go_wp2
    replace BK241 := Aside0.mk (blk_drew BK241.out)
    replace BK242 := Aside0.mk (blk_drew BK242.out)
    replace HB := Aside0.mk (below_drew1 HB.out)
    refine start_ (n := 16) (S := fun w' => w'.cell? ⟨gb241, 0, none⟩ = some (.int .i64 a0_0) ∧ w'.cell? ⟨gb241, 1, none⟩ = some (.int .i64 a0_1) ∧ w'.cell? ⟨gb241, 2, none⟩ = some (.int .i64 a0_2) ∧ w'.cell? ⟨gb241, 3, none⟩ = some (.int .i64 a0_3) ∧ w'.cell? ⟨gb242, 0, none⟩ = some (.int .i64 a1_0) ∧ w'.cell? ⟨gb242, 1, none⟩ = some (.int .i64 a1_1) ∧ w'.cell? ⟨gb242, 2, none⟩ = some (.int .i64 a1_2) ∧ w'.cell? ⟨gb242, 3, none⟩ = some (.int .i64 a1_3)) (ds := []) #[F,F,F,F,F,F,F,F,F,F,F,F,F,F,F,F] (by kernel_rfl) rfl rfl ⟨(blk_cell BK241.out 0).trans rfl, (blk_cell BK241.out 1).trans rfl, (blk_cell BK241.out 2).trans rfl, (blk_cell BK241.out 3).trans rfl, (blk_cell BK242.out 0).trans rfl, (blk_cell BK242.out 1).trans rfl, (blk_cell BK242.out 2).trans rfl, (blk_cell BK242.out 3).trans rfl⟩ (fun hHeld => ?_); refine with_tabW impl_HowMeet.tab3 impl_HowMeet.bits3 (fun HT_ HW_ => ?_)
    generalize wc.drew = w21 at BK241 BK242 HB hHeld ⊢
    refine pz HT_ 0 17 ?_; refine pz HT_ 2 19 ?_; refine pz HT_ 4 21 ?_; refine pz HT_ 7 24 ?_; refine pz HT_ 9 26 ?_; refine pz HT_ 11 28 ?_; refine tz8 HT_ HW_ hHeld 1 18 ?_; refine tz8 HT_ HW_ hHeld 3 20 ?_; refine tz8 HT_ HW_ hHeld 5 22 ?_; refine tz8 HT_ HW_ hHeld 8 25 ?_; refine tz8 HT_ HW_ hHeld 10 27 ?_; refine tz8 HT_ HW_ hHeld 12 29 ?_
    refine oz HT_ 6 (some 23) (fun K hK => ?_)
    refine gz Try.func167 #[.agg #[.int .i64 a0_0, .int .i64 a0_1], .agg #[.int .i64 a0_2, .int .i64 a0_3], .agg #[.int .i64 a1_0, .int .i64 a1_1]] ?_
    with_reducible refine (impl_SideOf.calls a0_0 a0_1 a0_2 a0_3 a1_0 a1_1 t245 _ A18.out).mono ?_
    rintro e w22 ⟨rfl, hb⟩
    refine ⟨_, rfl, ?_⟩
    replace BK241 := Aside0.mk (blk_below (g := gb241) (o := .cells #[.int .i64 a0_0, .int .i64 a0_1, .int .i64 a0_2, .int .i64 a0_3] 85 (0, 0)) (kz BK241) hb)
    replace BK242 := Aside0.mk (blk_below (g := gb242) (o := .cells #[.int .i64 a1_0, .int .i64 a1_1, .int .i64 a1_2, .int .i64 a1_3] 85 (0, 0)) (kz BK242) hb)
    replace HB := Aside0.mk (below_step bzs hb)
    (try clear hb)
    (try clear hb2)
    (try clear hk)
    (try clear hi)
    refine hK.out _ _ ⟨(blk_cell BK241.out 0).trans rfl, (blk_cell BK241.out 1).trans rfl, (blk_cell BK241.out 2).trans rfl, (blk_cell BK241.out 3).trans rfl, (blk_cell BK242.out 0).trans rfl, (blk_cell BK242.out 1).trans rfl, (blk_cell BK242.out 2).trans rfl, (blk_cell BK242.out 3).trans rfl⟩ (fun hHeld => ?_)
    clear hK K
    refine nz 23 ?_
    refine oz HT_ 13 (some 30) (fun K hK => ?_)
    refine gz Try.func167 #[.agg #[.int .i64 a0_0, .int .i64 a0_1], .agg #[.int .i64 a0_2, .int .i64 a0_3], .agg #[.int .i64 a1_2, .int .i64 a1_3]] ?_
    with_reducible refine (impl_SideOf.calls a0_0 a0_1 a0_2 a0_3 a1_2 a1_3 t246 _ A19.out).mono ?_
    rintro e w23 ⟨rfl, hb⟩
    refine ⟨_, rfl, ?_⟩
    replace BK241 := Aside0.mk (blk_below (g := gb241) (o := .cells #[.int .i64 a0_0, .int .i64 a0_1, .int .i64 a0_2, .int .i64 a0_3] 85 (0, 0)) (kz BK241) hb)
    replace BK242 := Aside0.mk (blk_below (g := gb242) (o := .cells #[.int .i64 a1_0, .int .i64 a1_1, .int .i64 a1_2, .int .i64 a1_3] 85 (0, 0)) (kz BK242) hb)
    replace HB := Aside0.mk (below_step bzs hb)
    (try clear hb)
    (try clear hb2)
    (try clear hk)
    (try clear hi)
    refine hK.out _ _ ⟨(blk_cell BK241.out 0).trans rfl, (blk_cell BK241.out 1).trans rfl, (blk_cell BK241.out 2).trans rfl, (blk_cell BK241.out 3).trans rfl, (blk_cell BK242.out 0).trans rfl, (blk_cell BK242.out 1).trans rfl, (blk_cell BK242.out 2).trans rfl, (blk_cell BK242.out 3).trans rfl⟩ (fun hHeld => ?_)
    clear hK K
    refine nz 30 ?_; refine pz HT_ 14 5 ?_; refine pz HT_ 15 6 ?_; refine dz HT_ ?_
    go_upto_region 4 with (fail)
    go_cut [36] (fun v36 wc => ∃ (kq : Nat) (x36_19 : Bool), v36 = .bool x36_19 ∧ Aside0 (impl_HowMeet.j1 kq t245 t246 x36_19 a0_0 a0_1 a0_2 a0_3 a1_0 a1_1 a1_2 a1_3 = some r) ∧ Aside0 (kq ≤ kj2) ∧ Aside0 (wc.heap[gb241]? = some (.cells #[.int .i64 a0_0, .int .i64 a0_1, .int .i64 a0_2, .int .i64 a0_3] 85 (0, 0))) ∧ Aside0 (wc.heap[gb242]? = some (.cells #[.int .i64 a1_0, .int .i64 a1_1, .int .i64 a1_2, .int .i64 a1_3] 85 (0, 0))) ∧ Aside0 (Below w.heap.size w wc))
    case first =>
     have H := HC20.out
     clear HC20
     by_cases c24 : t245 = 0
     ·rw [if_pos c24] at H
      have c24b0 : (t245 == 0) = true := beq_iff_eq.mpr c24
      have c24b1 : (t245 != 0) = false := bne_eq_false_iff_eq.mpr c24
      clear c24
      (first | rw [c24b0] | (simp only [i64_w, i32_w]; rw [c24b0]) | skip)
      have H' := Aside0.mk H
      clear H
      go_wp2
      go_meet
      case rel => exact ⟨_, ((t246 == 0)), rz, H', ⟨by have := HJ2.out; first | omega | exact Nat.le_refl _⟩, ⟨kz BK241⟩, ⟨kz BK242⟩, ⟨bzs⟩⟩
     ·rw [if_neg c24] at H
      have c24b0 : (t245 == 0) = false := beq_eq_false_iff_ne.mpr c24
      have c24b1 : (t245 != 0) = true := bne_iff_ne.mpr c24
      (first | rw [c24b0] | (simp only [i64_w, i32_w]; rw [c24b0]) | skip)
      have H' := Aside0.mk H
      clear H
      go_wp2
      go_meet
      case rel => exact ⟨_, (false), rz, H', ⟨by have := HJ2.out; first | omega | exact Nat.le_refl _⟩, ⟨kz BK241⟩, ⟨kz BK242⟩, ⟨bzs⟩⟩
    case rest =>
     clear HC20
     try clear c1
     try clear c2
     try clear p2
     try clear c7
     try clear c9
     try clear c14
     try clear c15
     try clear c16
     try clear c17
     try clear c24
     try clear c24b0
     try clear c24b1
     try clear hcz10_0
     try clear hcz10_1
     try clear hcz10_2
     try clear hcz10_3
     try clear hcz12_0
     try clear hcz12_1
     try clear hcz12_2
     try clear hcz12_3
     try clear hcz15_0
     try clear hcz15_1
     try clear hcz15_2
     try clear hcz15_3
     try clear hfz10_0
     try clear hfz10_1
     try clear hfz10_2
     try clear hfz10_3
     try clear hfz12_0
     try clear hfz12_1
     try clear hfz12_2
     try clear hfz12_3
     try clear hfz15_0
     try clear hfz15_1
     try clear hfz15_2
     try clear hfz15_3
     try clear p2
     obtain ⟨kq, x36_19, rfl, HA, HJ19, BK241, BK242, HB⟩ := hcut
     cases kq with
     | zero => exact absurd HA.out (by simp [impl_HowMeet.j1])
     | succ kj19 =>
      have H := HA.out
      clear HA
      simp only [impl_HowMeet.j1] at H
      by_cases c25 : x36_19 = true
      ·subst c25
       have H1 : ((impl_forward.f a0_0 a0_1 a0_2 a0_3).bind fun bt247 => ((impl_forward.f a1_0 a1_1 a1_2 a1_3).bind fun bt251 => ((impl_BeforePoint.f bt247.1 bt247.2.1 bt251.1 bt251.2.1).bind fun t257 => (if t257 = true then (impl_HowMeet.j2 kj19 bt251.1 bt251.2.1 bt251.2.2.1 bt251.2.2.2 bt251.1 bt251.2.1 bt247.2.2.1 bt247.2.2.2) else (impl_HowMeet.j2 kj19 bt251.1 bt251.2.1 bt251.2.2.1 bt251.2.2.2 bt247.1 bt247.2.1 bt247.2.2.1 bt247.2.2.2))))) = some r := by rw [if_pos rfl] at H; exact H
       clear H
       have H := H1
       clear H1
       replace H := Option.bind_eq_some_iff.mp H
       obtain ⟨⟨t247, t248, t249, t250⟩, A260, H⟩ := H
       replace H : ((impl_forward.f a1_0 a1_1 a1_2 a1_3).bind fun bt251 => ((impl_BeforePoint.f t247 t248 bt251.1 bt251.2.1).bind fun t257 => (if t257 = true then (impl_HowMeet.j2 kj19 bt251.1 bt251.2.1 bt251.2.2.1 bt251.2.2.2 bt251.1 bt251.2.1 t249 t250) else (impl_HowMeet.j2 kj19 bt251.1 bt251.2.1 bt251.2.2.1 bt251.2.2.2 t247 t248 t249 t250)))) = some r := H
       have A26 := Aside0.mk A260
       clear A260
       replace H := Option.bind_eq_some_iff.mp H
       obtain ⟨⟨t251, t252, t253, t254⟩, A270, H⟩ := H
       replace H : ((impl_BeforePoint.f t247 t248 t251 t252).bind fun t257 => (if t257 = true then (impl_HowMeet.j2 kj19 t251 t252 t253 t254 t251 t252 t249 t250) else (impl_HowMeet.j2 kj19 t251 t252 t253 t254 t247 t248 t249 t250))) = some r := H
       have A27 := Aside0.mk A270
       clear A270
       replace H := Option.bind_eq_some_iff.mp H
       obtain ⟨t257, A280, H⟩ := H
       replace H : (if t257 = true then (impl_HowMeet.j2 kj19 t251 t252 t253 t254 t251 t252 t249 t250) else (impl_HowMeet.j2 kj19 t251 t252 t253 t254 t247 t248 t249 t250)) = some r := H
       have A28 := Aside0.mk A280
       clear A280
       have HC29 := Aside0.mk H
       clear H
       try go_wp2
       replace BK241 := Aside0.mk (blk_drew BK241.out)
       replace BK242 := Aside0.mk (blk_drew BK242.out)
       replace HB := Aside0.mk (below_drew1 HB.out)
       refine start_ (n := 6) (S := fun w' => w'.cell? ⟨gb241, 0, none⟩ = some (.int .i64 a0_0) ∧ w'.cell? ⟨gb241, 1, none⟩ = some (.int .i64 a0_1) ∧ w'.cell? ⟨gb241, 2, none⟩ = some (.int .i64 a0_2) ∧ w'.cell? ⟨gb241, 3, none⟩ = some (.int .i64 a0_3) ∧ w'.cell? ⟨gb242, 0, none⟩ = some (.int .i64 a1_0) ∧ w'.cell? ⟨gb242, 1, none⟩ = some (.int .i64 a1_1) ∧ w'.cell? ⟨gb242, 2, none⟩ = some (.int .i64 a1_2) ∧ w'.cell? ⟨gb242, 3, none⟩ = some (.int .i64 a1_3)) (ds := [4, 5]) #[F,F,F,F,F,F] (by kernel_rfl) rfl rfl ⟨(blk_cell BK241.out 0).trans rfl, (blk_cell BK241.out 1).trans rfl, (blk_cell BK241.out 2).trans rfl, (blk_cell BK241.out 3).trans rfl, (blk_cell BK242.out 0).trans rfl, (blk_cell BK242.out 1).trans rfl, (blk_cell BK242.out 2).trans rfl, (blk_cell BK242.out 3).trans rfl⟩ (fun hHeld => ?_)
       generalize wc.drew = w30 at BK241 BK242 HB hHeld ⊢
       refine take_ (i := 0) (N := some 37) (v := ?_) (a' := ?_) #[T,F,F,F,F,F] rfl rfl (by kernel_rfl) (fun _ _ _ h => h) (Or.inl ⟨by rfl, ?_⟩) hHeld ?_ ?_
       rotate_left
       ·rintro w' ⟨s0, s1, s2, s3, s4, s5, s6, s7⟩
        go_simp
        with_reducible rfl
       rotate_left
       ·simp only [Act.put, List.setIfInBounds_toArray, List.set_cons_zero, List.set_cons_succ, i64_w, i32_w]
        rfl
       refine take_ (i := 2) (N := some 39) (v := ?_) (a' := ?_) #[T,F,T,F,F,F] rfl rfl (by kernel_rfl) (fun _ _ _ h => h) (Or.inl ⟨by rfl, ?_⟩) hHeld ?_ ?_
       rotate_left
       ·rintro w' ⟨s0, s1, s2, s3, s4, s5, s6, s7⟩
        go_simp
        with_reducible rfl
       rotate_left
       ·simp only [Act.put, List.setIfInBounds_toArray, List.set_cons_zero, List.set_cons_succ, i64_w, i32_w]
        rfl
       refine one_ (i := 1) (N := some 38) #[T,T,T,F,F,F] rfl rfl (by kernel_rfl) (by decide) (fun K hK => ?_)
       refine gz Try.func169 #[.agg #[.int .i64 a0_0, .int .i64 a0_1, .int .i64 a0_2, .int .i64 a0_3]] ?_
       with_reducible refine (impl_forward.calls a0_0 a0_1 a0_2 a0_3 t247 t248 t249 t250 _ A26.out).mono ?_
       rintro e w31 ⟨rfl, hb⟩
       refine ⟨_, rfl, ?_⟩
       replace BK241 := Aside0.mk (blk_below (g := gb241) (o := .cells #[.int .i64 a0_0, .int .i64 a0_1, .int .i64 a0_2, .int .i64 a0_3] 85 (0, 0)) (kz BK241) hb)
       replace BK242 := Aside0.mk (blk_below (g := gb242) (o := .cells #[.int .i64 a1_0, .int .i64 a1_1, .int .i64 a1_2, .int .i64 a1_3] 85 (0, 0)) (kz BK242) hb)
       replace HB := Aside0.mk (below_step bzs hb)
       (try clear hb)
       (try clear hb2)
       (try clear hk)
       (try clear hi)
       refine hK.out _ _ ⟨(blk_cell BK241.out 0).trans rfl, (blk_cell BK241.out 1).trans rfl, (blk_cell BK241.out 2).trans rfl, (blk_cell BK241.out 3).trans rfl, (blk_cell BK242.out 0).trans rfl, (blk_cell BK242.out 1).trans rfl, (blk_cell BK242.out 2).trans rfl, (blk_cell BK242.out 3).trans rfl⟩ (fun hHeld => ?_)
       clear hK K
       refine nz 38 ?_
       refine one_ (i := 3) (N := some 40) #[T,T,T,T,F,F] rfl rfl (by kernel_rfl) (by decide) (fun K hK => ?_)
       refine gz Try.func169 #[.agg #[.int .i64 a1_0, .int .i64 a1_1, .int .i64 a1_2, .int .i64 a1_3]] ?_
       with_reducible refine (impl_forward.calls a1_0 a1_1 a1_2 a1_3 t251 t252 t253 t254 _ A27.out).mono ?_
       rintro e w32 ⟨rfl, hb⟩
       refine ⟨_, rfl, ?_⟩
       replace BK241 := Aside0.mk (blk_below (g := gb241) (o := .cells #[.int .i64 a0_0, .int .i64 a0_1, .int .i64 a0_2, .int .i64 a0_3] 85 (0, 0)) (kz BK241) hb)
       replace BK242 := Aside0.mk (blk_below (g := gb242) (o := .cells #[.int .i64 a1_0, .int .i64 a1_1, .int .i64 a1_2, .int .i64 a1_3] 85 (0, 0)) (kz BK242) hb)
       replace HB := Aside0.mk (below_step bzs hb)
       (try clear hb)
       (try clear hb2)
       (try clear hk)
       (try clear hi)
       refine hK.out _ _ ⟨(blk_cell BK241.out 0).trans rfl, (blk_cell BK241.out 1).trans rfl, (blk_cell BK241.out 2).trans rfl, (blk_cell BK241.out 3).trans rfl, (blk_cell BK242.out 0).trans rfl, (blk_cell BK242.out 1).trans rfl, (blk_cell BK242.out 2).trans rfl, (blk_cell BK242.out 3).trans rfl⟩ (fun hHeld => ?_)
       clear hK K
       refine nz 40 ?_
       refine last_ (i := 4) (N := none) #[T,T,T,T,T,F] rfl rfl (by kernel_rfl) (by decide) (fun K hK => ?_)
       have hs33 : w32.cell? ⟨gb241, 0, none⟩ = some (.int .i64 a0_0) := (blk_cell BK241.out 0).trans rfl
       have hfs33 := blk_frozen BK241.out 0
       have hns33_1 := NB242_241.out
       have hms33_1 := NB241_242.out
       have hs34 : w32.cell? ⟨gb241, 1, none⟩ = some (.int .i64 a0_1) := (blk_cell BK241.out 1).trans rfl
       have hfs34 := blk_frozen BK241.out 1
       have hns34_1 := NB242_241.out
       have hms34_1 := NB241_242.out
       have hs35 : w32.cell? ⟨gb241, 2, none⟩ = some (.int .i64 a0_2) := (blk_cell BK241.out 2).trans rfl
       have hfs35 := blk_frozen BK241.out 2
       have hns35_1 := NB242_241.out
       have hms35_1 := NB241_242.out
       have hs36 : w32.cell? ⟨gb241, 3, none⟩ = some (.int .i64 a0_3) := (blk_cell BK241.out 3).trans rfl
       have hfs36 := blk_frozen BK241.out 3
       have hns36_1 := NB242_241.out
       have hms36_1 := NB241_242.out
       refine skip_ (w1 := ?_) (by rfl) rfl ?_ ?_
       rotate_left
       ·go_simp
        rfl
       refine hK.out _ _ ?_
       clear hK K
       refine last_ (i := 5) (N := none) #[T,T,T,T,T,T] rfl rfl (by kernel_rfl) (by decide) (fun K hK => ?_)
       have hs37 : w32.cell? ⟨gb242, 0, none⟩ = some (.int .i64 a1_0) := (blk_cell BK242.out 0).trans rfl
       have hfs37 := blk_frozen BK242.out 0
       have hns37_0 := NB241_242.out
       have hms37_0 := NB242_241.out
       have hs38 : w32.cell? ⟨gb242, 1, none⟩ = some (.int .i64 a1_1) := (blk_cell BK242.out 1).trans rfl
       have hfs38 := blk_frozen BK242.out 1
       have hns38_0 := NB241_242.out
       have hms38_0 := NB242_241.out
       have hs39 : w32.cell? ⟨gb242, 2, none⟩ = some (.int .i64 a1_2) := (blk_cell BK242.out 2).trans rfl
       have hfs39 := blk_frozen BK242.out 2
       have hns39_0 := NB241_242.out
       have hms39_0 := NB242_241.out
       have hs40 : w32.cell? ⟨gb242, 3, none⟩ = some (.int .i64 a1_3) := (blk_cell BK242.out 3).trans rfl
       have hfs40 := blk_frozen BK242.out 3
       have hns40_0 := NB241_242.out
       have hms40_0 := NB242_241.out
       refine skip_ (w1 := ?_) (by rfl) rfl ?_ ?_
       rotate_left
       ·go_simp
        rfl
       refine hK.out _ _ ?_
       clear hK K
       refine done_ (by kernel_rfl) ?_
       try go_wp2
       have n0_ : Aside0 (((((((((w32.setCell ⟨gb241, 0, none⟩ (.int .i64 t247)).setCell ⟨gb241, 1, none⟩ (.int .i64 t248)).setCell ⟨gb241, 2, none⟩ (.int .i64 t249)).setCell ⟨gb241, 3, none⟩ (.int .i64 t250)).setCell ⟨gb242, 0, none⟩ (.int .i64 t251)).setCell ⟨gb242, 1, none⟩ (.int .i64 t252)).setCell ⟨gb242, 2, none⟩ (.int .i64 t253)).setCell ⟨gb242, 3, none⟩ (.int .i64 t254)).heap[gb241]? = some (.cells #[.int .i64 t247, .int .i64 t248, .int .i64 t249, .int .i64 t250] 85 (0, 0))) := ⟨by (with_reducible repeat (first | refine blk_drewN ?_ _ | refine blk_drew ?_ | refine blk_alloc ?_ _)); refine blk_far ?_ NB241_242.out _; (with_reducible repeat (first | refine blk_drewN ?_ _ | refine blk_drew ?_ | refine blk_alloc ?_ _)); refine blk_far ?_ NB241_242.out _; (with_reducible repeat (first | refine blk_drewN ?_ _ | refine blk_drew ?_ | refine blk_alloc ?_ _)); refine blk_far ?_ NB241_242.out _; (with_reducible repeat (first | refine blk_drewN ?_ _ | refine blk_drew ?_ | refine blk_alloc ?_ _)); refine blk_far ?_ NB241_242.out _; (with_reducible repeat (first | refine blk_drewN ?_ _ | refine blk_drew ?_ | refine blk_alloc ?_ _)); refine blk_put (cs := #[.int .i64 t247, .int .i64 t248, .int .i64 t249, .int .i64 a0_3]) ?_ 3 _ rfl; (with_reducible repeat (first | refine blk_drewN ?_ _ | refine blk_drew ?_ | refine blk_alloc ?_ _)); refine blk_put (cs := #[.int .i64 t247, .int .i64 t248, .int .i64 a0_2, .int .i64 a0_3]) ?_ 2 _ rfl; (with_reducible repeat (first | refine blk_drewN ?_ _ | refine blk_drew ?_ | refine blk_alloc ?_ _)); refine blk_put (cs := #[.int .i64 t247, .int .i64 a0_1, .int .i64 a0_2, .int .i64 a0_3]) ?_ 1 _ rfl; (with_reducible repeat (first | refine blk_drewN ?_ _ | refine blk_drew ?_ | refine blk_alloc ?_ _)); refine blk_put (cs := #[.int .i64 a0_0, .int .i64 a0_1, .int .i64 a0_2, .int .i64 a0_3]) ?_ 0 _ rfl; (with_reducible repeat (first | refine blk_drewN ?_ _ | refine blk_drew ?_ | refine blk_alloc ?_ _)); exact BK241.out⟩
       have n1_ : Aside0 (((((((((w32.setCell ⟨gb241, 0, none⟩ (.int .i64 t247)).setCell ⟨gb241, 1, none⟩ (.int .i64 t248)).setCell ⟨gb241, 2, none⟩ (.int .i64 t249)).setCell ⟨gb241, 3, none⟩ (.int .i64 t250)).setCell ⟨gb242, 0, none⟩ (.int .i64 t251)).setCell ⟨gb242, 1, none⟩ (.int .i64 t252)).setCell ⟨gb242, 2, none⟩ (.int .i64 t253)).setCell ⟨gb242, 3, none⟩ (.int .i64 t254)).heap[gb242]? = some (.cells #[.int .i64 t251, .int .i64 t252, .int .i64 t253, .int .i64 t254] 85 (0, 0))) := ⟨by (with_reducible repeat (first | refine blk_drewN ?_ _ | refine blk_drew ?_ | refine blk_alloc ?_ _)); refine blk_put (cs := #[.int .i64 t251, .int .i64 t252, .int .i64 t253, .int .i64 a1_3]) ?_ 3 _ rfl; (with_reducible repeat (first | refine blk_drewN ?_ _ | refine blk_drew ?_ | refine blk_alloc ?_ _)); refine blk_put (cs := #[.int .i64 t251, .int .i64 t252, .int .i64 a1_2, .int .i64 a1_3]) ?_ 2 _ rfl; (with_reducible repeat (first | refine blk_drewN ?_ _ | refine blk_drew ?_ | refine blk_alloc ?_ _)); refine blk_put (cs := #[.int .i64 t251, .int .i64 a1_1, .int .i64 a1_2, .int .i64 a1_3]) ?_ 1 _ rfl; (with_reducible repeat (first | refine blk_drewN ?_ _ | refine blk_drew ?_ | refine blk_alloc ?_ _)); refine blk_put (cs := #[.int .i64 a1_0, .int .i64 a1_1, .int .i64 a1_2, .int .i64 a1_3]) ?_ 0 _ rfl; (with_reducible repeat (first | refine blk_drewN ?_ _ | refine blk_drew ?_ | refine blk_alloc ?_ _)); refine blk_far ?_ NB242_241.out _; (with_reducible repeat (first | refine blk_drewN ?_ _ | refine blk_drew ?_ | refine blk_alloc ?_ _)); refine blk_far ?_ NB242_241.out _; (with_reducible repeat (first | refine blk_drewN ?_ _ | refine blk_drew ?_ | refine blk_alloc ?_ _)); refine blk_far ?_ NB242_241.out _; (with_reducible repeat (first | refine blk_drewN ?_ _ | refine blk_drew ?_ | refine blk_alloc ?_ _)); refine blk_far ?_ NB242_241.out _; (with_reducible repeat (first | refine blk_drewN ?_ _ | refine blk_drew ?_ | refine blk_alloc ?_ _)); exact BK242.out⟩
       have n2_ : Aside0 (Below w.heap.size w ((((((((w32.setCell ⟨gb241, 0, none⟩ (.int .i64 t247)).setCell ⟨gb241, 1, none⟩ (.int .i64 t248)).setCell ⟨gb241, 2, none⟩ (.int .i64 t249)).setCell ⟨gb241, 3, none⟩ (.int .i64 t250)).setCell ⟨gb242, 0, none⟩ (.int .i64 t251)).setCell ⟨gb242, 1, none⟩ (.int .i64 t252)).setCell ⟨gb242, 2, none⟩ (.int .i64 t253)).setCell ⟨gb242, 3, none⟩ (.int .i64 t254))) := ⟨bzs⟩
       (try clear BK241)
       (try clear BK242)
       (try clear HB)
       generalize ((((((((w32.setCell ⟨gb241, 0, none⟩ (.int .i64 t247)).setCell ⟨gb241, 1, none⟩ (.int .i64 t248)).setCell ⟨gb241, 2, none⟩ (.int .i64 t249)).setCell ⟨gb241, 3, none⟩ (.int .i64 t250)).setCell ⟨gb242, 0, none⟩ (.int .i64 t251)).setCell ⟨gb242, 1, none⟩ (.int .i64 t252)).setCell ⟨gb242, 2, none⟩ (.int .i64 t253)).setCell ⟨gb242, 3, none⟩ (.int .i64 t254)) = w41 at n0_ n1_ n2_ ⊢
       have BK241 := n0_
       have BK242 := n1_
       have HB := n2_
       clear n0_ n1_ n2_
       replace BK241 := Aside0.mk (blk_drew BK241.out)
       replace BK242 := Aside0.mk (blk_drew BK242.out)
       replace HB := Aside0.mk (below_drew1 HB.out)
       refine start_ (n := 8) (S := fun w' => w'.cell? ⟨gb241, 0, none⟩ = some (.int .i64 t247) ∧ w'.cell? ⟨gb241, 1, none⟩ = some (.int .i64 t248) ∧ w'.cell? ⟨gb241, 2, none⟩ = some (.int .i64 t249) ∧ w'.cell? ⟨gb241, 3, none⟩ = some (.int .i64 t250)) (ds := []) #[F,F,F,F,F,F,F,F] (by kernel_rfl) rfl rfl ⟨(blk_cell BK241.out 0).trans rfl, (blk_cell BK241.out 1).trans rfl, (blk_cell BK241.out 2).trans rfl, (blk_cell BK241.out 3).trans rfl⟩ (fun hHeld => ?_); refine with_tabW impl_HowMeet.tab6 impl_HowMeet.bits6 (fun HT_ HW_ => ?_)
       generalize w41.drew = w42 at BK241 BK242 HB hHeld ⊢
       refine pz HT_ 0 41 ?_; refine pz HT_ 2 43 ?_; refine tz4 HT_ HW_ hHeld 1 42 ?_; refine tz4 HT_ HW_ hHeld 3 44 ?_
       refine join_ (σ := Nat × Nat) 2 #[T,T,T,T,T,T,F,F] (fun s_ => [(7, .pointer (some ⟨s_.1, 0, none⟩)), (8, .pointer (some ⟨s_.2, 0, none⟩))]) (fun s_ w' => (w'.cell? ⟨gb241, 0, none⟩ = some (.int .i64 t247) ∧ w'.cell? ⟨gb241, 1, none⟩ = some (.int .i64 t248) ∧ w'.cell? ⟨gb241, 2, none⟩ = some (.int .i64 t249) ∧ w'.cell? ⟨gb241, 3, none⟩ = some (.int .i64 t250)) ∧ (w'.heap[gb241]? = some (.cells #[.int .i64 t247, .int .i64 t248, .int .i64 t249, .int .i64 t250] 85 (0, 0))) ∧ (w'.heap[gb242]? = some (.cells #[.int .i64 t251, .int .i64 t252, .int .i64 t253, .int .i64 t254] 85 (0, 0))) ∧ (w'.heap[s_.1]? = some (.cells #[.int .i64 0, .int .i64 0] 82 (0, 0))) ∧ (w'.heap[s_.2]? = some (.cells #[.int .i64 0, .int .i64 0] 82 (0, 0))) ∧ (w.heap.size ≤ s_.1) ∧ (w.heap.size ≤ s_.1) ∧ (gb241 ≠ s_.1) ∧ (s_.1 ≠ gb241) ∧ (gb242 ≠ s_.1) ∧ (s_.1 ≠ gb242) ∧ (s_.2 ≠ s_.1) ∧ (s_.1 ≠ s_.2) ∧ (w.heap.size ≤ s_.2) ∧ (w.heap.size ≤ s_.2) ∧ (gb241 ≠ s_.2) ∧ (s_.2 ≠ gb241) ∧ (gb242 ≠ s_.2) ∧ (s_.2 ≠ gb242) ∧ (Below w.heap.size w w')) ?_ ?_
       rotate_left
       ·intro hCont
        refine two_ (i := 4) (j := 5) (Ni := some 7) (Nj := some 8) #[T,T,T,T,T,F,F,F] #[T,T,T,T,F,T,F,F] rfl rfl rfl rfl (two_of HT_.out (by kernel_rfl)) (by decide) (by decide) (fun K hK => ?_) (fun K hK => ?_)
        ·skip
         refine box_step ?hg (N := 7) ?hd (cs := #[.int .i64 0, .int .i64 0]) (t := 82) ?hr ?_; (case hd => rfl); (case hg => rfl); (case hr => first | (go_simp; done) | (go_simp; rfl))
         intro gb255 hg w43 hbox hb
         have BK255 := Aside0.mk (hbox)
         have GW255 := Aside0.mk ((by rw [hg]; exact (below_size bzs) : w.heap.size ≤ gb255))
         have GE255 := Aside0.mk ((by rw [hg]; exact (below_size bzs) : w.heap.size ≤ gb255))
         replace HB := Aside0.mk (below_step bzs hb)
         have NB241_255 := Aside0.mk ((by rw [hg]; exact Nat.ne_of_lt (blk_lt (g := gb241) (o := .cells #[.int .i64 t247, .int .i64 t248, .int .i64 t249, .int .i64 t250] 85 (0, 0)) (kz BK241)) : gb241 ≠ gb255))
         have NB255_241 := Aside0.mk ((by rw [hg]; exact Nat.ne_of_gt (blk_lt (g := gb241) (o := .cells #[.int .i64 t247, .int .i64 t248, .int .i64 t249, .int .i64 t250] 85 (0, 0)) (kz BK241)) : gb255 ≠ gb241))
         replace BK241 := Aside0.mk (blk_below (g := gb241) (o := .cells #[.int .i64 t247, .int .i64 t248, .int .i64 t249, .int .i64 t250] 85 (0, 0)) (kz BK241) hb)
         have NB242_255 := Aside0.mk ((by rw [hg]; exact Nat.ne_of_lt (blk_lt (g := gb242) (o := .cells #[.int .i64 t251, .int .i64 t252, .int .i64 t253, .int .i64 t254] 85 (0, 0)) (kz BK242)) : gb242 ≠ gb255))
         have NB255_242 := Aside0.mk ((by rw [hg]; exact Nat.ne_of_gt (blk_lt (g := gb242) (o := .cells #[.int .i64 t251, .int .i64 t252, .int .i64 t253, .int .i64 t254] 85 (0, 0)) (kz BK242)) : gb255 ≠ gb242))
         replace BK242 := Aside0.mk (blk_below (g := gb242) (o := .cells #[.int .i64 t251, .int .i64 t252, .int .i64 t253, .int .i64 t254] 85 (0, 0)) (kz BK242) hb)
         clear hb hbox hg
         refine hK.out _ _ ⟨(blk_cell BK241.out 0).trans rfl, (blk_cell BK241.out 1).trans rfl, (blk_cell BK241.out 2).trans rfl, (blk_cell BK241.out 3).trans rfl⟩ (fun hHeld => ?_)
         clear hK K
         refine nz 7 ?_
         refine oz HT_ 5 (some 8) (fun K hK => ?_)
         refine box_step ?hg (N := 8) ?hd (cs := #[.int .i64 0, .int .i64 0]) (t := 82) ?hr ?_; (case hd => rfl); (case hg => rfl); (case hr => first | (go_simp; done) | (go_simp; rfl))
         intro gb256 hg w44 hbox hb
         have BK256 := Aside0.mk (hbox)
         have GW256 := Aside0.mk ((by rw [hg]; exact (below_size bzs) : w.heap.size ≤ gb256))
         have GE256 := Aside0.mk ((by rw [hg]; exact (below_size bzs) : w.heap.size ≤ gb256))
         replace HB := Aside0.mk (below_step bzs hb)
         have NB241_256 := Aside0.mk ((by rw [hg]; exact Nat.ne_of_lt (blk_lt (g := gb241) (o := .cells #[.int .i64 t247, .int .i64 t248, .int .i64 t249, .int .i64 t250] 85 (0, 0)) (kz BK241)) : gb241 ≠ gb256))
         have NB256_241 := Aside0.mk ((by rw [hg]; exact Nat.ne_of_gt (blk_lt (g := gb241) (o := .cells #[.int .i64 t247, .int .i64 t248, .int .i64 t249, .int .i64 t250] 85 (0, 0)) (kz BK241)) : gb256 ≠ gb241))
         replace BK241 := Aside0.mk (blk_below (g := gb241) (o := .cells #[.int .i64 t247, .int .i64 t248, .int .i64 t249, .int .i64 t250] 85 (0, 0)) (kz BK241) hb)
         have NB242_256 := Aside0.mk ((by rw [hg]; exact Nat.ne_of_lt (blk_lt (g := gb242) (o := .cells #[.int .i64 t251, .int .i64 t252, .int .i64 t253, .int .i64 t254] 85 (0, 0)) (kz BK242)) : gb242 ≠ gb256))
         have NB256_242 := Aside0.mk ((by rw [hg]; exact Nat.ne_of_gt (blk_lt (g := gb242) (o := .cells #[.int .i64 t251, .int .i64 t252, .int .i64 t253, .int .i64 t254] 85 (0, 0)) (kz BK242)) : gb256 ≠ gb242))
         replace BK242 := Aside0.mk (blk_below (g := gb242) (o := .cells #[.int .i64 t251, .int .i64 t252, .int .i64 t253, .int .i64 t254] 85 (0, 0)) (kz BK242) hb)
         have NB255_256 := Aside0.mk ((by rw [hg]; exact Nat.ne_of_lt (blk_lt (g := gb255) (o := .cells #[.int .i64 0, .int .i64 0] 82 (0, 0)) (kz BK255)) : gb255 ≠ gb256))
         have NB256_255 := Aside0.mk ((by rw [hg]; exact Nat.ne_of_gt (blk_lt (g := gb255) (o := .cells #[.int .i64 0, .int .i64 0] 82 (0, 0)) (kz BK255)) : gb256 ≠ gb255))
         replace BK255 := Aside0.mk (blk_below (g := gb255) (o := .cells #[.int .i64 0, .int .i64 0] 82 (0, 0)) (kz BK255) hb)
         clear hb hbox hg
         refine hK.out _ _ ⟨(blk_cell BK241.out 0).trans rfl, (blk_cell BK241.out 1).trans rfl, (blk_cell BK241.out 2).trans rfl, (blk_cell BK241.out 3).trans rfl⟩ (fun hHeld => ?_)
         clear hK K
         refine nz 8 ?_
         exact norm_ (by simp only [putAll, Act.put, List.setIfInBounds_toArray, List.set_cons_zero, List.set_cons_succ]) (hCont (gb255, gb256) _ ⟨hHeld, (kz BK241), (kz BK242), (kz BK255), (kz BK256), GW255.out, GE255.out, NB241_255.out, NB255_241.out, NB242_255.out, NB255_242.out, NB256_255.out, NB255_256.out, GW256.out, GE256.out, NB241_256.out, NB256_241.out, NB242_256.out, NB256_242.out, bzs⟩)
        ·skip
         refine box_step ?hg (N := 8) ?hd (cs := #[.int .i64 0, .int .i64 0]) (t := 82) ?hr ?_; (case hd => rfl); (case hg => rfl); (case hr => first | (go_simp; done) | (go_simp; rfl))
         intro gb256 hg w43 hbox hb
         have BK256 := Aside0.mk (hbox)
         have GW256 := Aside0.mk ((by rw [hg]; exact (below_size bzs) : w.heap.size ≤ gb256))
         have GE256 := Aside0.mk ((by rw [hg]; exact (below_size bzs) : w.heap.size ≤ gb256))
         replace HB := Aside0.mk (below_step bzs hb)
         have NB241_256 := Aside0.mk ((by rw [hg]; exact Nat.ne_of_lt (blk_lt (g := gb241) (o := .cells #[.int .i64 t247, .int .i64 t248, .int .i64 t249, .int .i64 t250] 85 (0, 0)) (kz BK241)) : gb241 ≠ gb256))
         have NB256_241 := Aside0.mk ((by rw [hg]; exact Nat.ne_of_gt (blk_lt (g := gb241) (o := .cells #[.int .i64 t247, .int .i64 t248, .int .i64 t249, .int .i64 t250] 85 (0, 0)) (kz BK241)) : gb256 ≠ gb241))
         replace BK241 := Aside0.mk (blk_below (g := gb241) (o := .cells #[.int .i64 t247, .int .i64 t248, .int .i64 t249, .int .i64 t250] 85 (0, 0)) (kz BK241) hb)
         have NB242_256 := Aside0.mk ((by rw [hg]; exact Nat.ne_of_lt (blk_lt (g := gb242) (o := .cells #[.int .i64 t251, .int .i64 t252, .int .i64 t253, .int .i64 t254] 85 (0, 0)) (kz BK242)) : gb242 ≠ gb256))
         have NB256_242 := Aside0.mk ((by rw [hg]; exact Nat.ne_of_gt (blk_lt (g := gb242) (o := .cells #[.int .i64 t251, .int .i64 t252, .int .i64 t253, .int .i64 t254] 85 (0, 0)) (kz BK242)) : gb256 ≠ gb242))
         replace BK242 := Aside0.mk (blk_below (g := gb242) (o := .cells #[.int .i64 t251, .int .i64 t252, .int .i64 t253, .int .i64 t254] 85 (0, 0)) (kz BK242) hb)
         clear hb hbox hg
         refine hK.out _ _ ⟨(blk_cell BK241.out 0).trans rfl, (blk_cell BK241.out 1).trans rfl, (blk_cell BK241.out 2).trans rfl, (blk_cell BK241.out 3).trans rfl⟩ (fun hHeld => ?_)
         clear hK K
         refine nz 8 ?_
         refine oz HT_ 4 (some 7) (fun K hK => ?_)
         refine box_step ?hg (N := 7) ?hd (cs := #[.int .i64 0, .int .i64 0]) (t := 82) ?hr ?_; (case hd => rfl); (case hg => rfl); (case hr => first | (go_simp; done) | (go_simp; rfl))
         intro gb255 hg w44 hbox hb
         have BK255 := Aside0.mk (hbox)
         have GW255 := Aside0.mk ((by rw [hg]; exact (below_size bzs) : w.heap.size ≤ gb255))
         have GE255 := Aside0.mk ((by rw [hg]; exact (below_size bzs) : w.heap.size ≤ gb255))
         replace HB := Aside0.mk (below_step bzs hb)
         have NB241_255 := Aside0.mk ((by rw [hg]; exact Nat.ne_of_lt (blk_lt (g := gb241) (o := .cells #[.int .i64 t247, .int .i64 t248, .int .i64 t249, .int .i64 t250] 85 (0, 0)) (kz BK241)) : gb241 ≠ gb255))
         have NB255_241 := Aside0.mk ((by rw [hg]; exact Nat.ne_of_gt (blk_lt (g := gb241) (o := .cells #[.int .i64 t247, .int .i64 t248, .int .i64 t249, .int .i64 t250] 85 (0, 0)) (kz BK241)) : gb255 ≠ gb241))
         replace BK241 := Aside0.mk (blk_below (g := gb241) (o := .cells #[.int .i64 t247, .int .i64 t248, .int .i64 t249, .int .i64 t250] 85 (0, 0)) (kz BK241) hb)
         have NB242_255 := Aside0.mk ((by rw [hg]; exact Nat.ne_of_lt (blk_lt (g := gb242) (o := .cells #[.int .i64 t251, .int .i64 t252, .int .i64 t253, .int .i64 t254] 85 (0, 0)) (kz BK242)) : gb242 ≠ gb255))
         have NB255_242 := Aside0.mk ((by rw [hg]; exact Nat.ne_of_gt (blk_lt (g := gb242) (o := .cells #[.int .i64 t251, .int .i64 t252, .int .i64 t253, .int .i64 t254] 85 (0, 0)) (kz BK242)) : gb255 ≠ gb242))
         replace BK242 := Aside0.mk (blk_below (g := gb242) (o := .cells #[.int .i64 t251, .int .i64 t252, .int .i64 t253, .int .i64 t254] 85 (0, 0)) (kz BK242) hb)
         have NB256_255 := Aside0.mk ((by rw [hg]; exact Nat.ne_of_lt (blk_lt (g := gb256) (o := .cells #[.int .i64 0, .int .i64 0] 82 (0, 0)) (kz BK256)) : gb256 ≠ gb255))
         have NB255_256 := Aside0.mk ((by rw [hg]; exact Nat.ne_of_gt (blk_lt (g := gb256) (o := .cells #[.int .i64 0, .int .i64 0] 82 (0, 0)) (kz BK256)) : gb255 ≠ gb256))
         replace BK256 := Aside0.mk (blk_below (g := gb256) (o := .cells #[.int .i64 0, .int .i64 0] 82 (0, 0)) (kz BK256) hb)
         clear hb hbox hg
         refine hK.out _ _ ⟨(blk_cell BK241.out 0).trans rfl, (blk_cell BK241.out 1).trans rfl, (blk_cell BK241.out 2).trans rfl, (blk_cell BK241.out 3).trans rfl⟩ (fun hHeld => ?_)
         clear hK K
         refine nz 7 ?_
         exact norm_ (by simp only [putAll, Act.put, List.setIfInBounds_toArray, List.set_cons_zero, List.set_cons_succ]) (hCont (gb255, gb256) _ ⟨hHeld, (kz BK241), (kz BK242), (kz BK255), (kz BK256), GW255.out, GE255.out, NB241_255.out, NB255_241.out, NB242_255.out, NB255_242.out, NB256_255.out, NB255_256.out, GW256.out, GE256.out, NB241_256.out, NB256_241.out, NB242_256.out, NB256_242.out, bzs⟩)
       rintro ⟨gb255, gb256⟩ w45 ⟨hS_, h0_, h1_, h2_, h3_, h4_, h5_, h6_, h7_, h8_, h9_, h10_, h11_, h12_, h13_, h14_, h15_, h16_, h17_, h18_⟩
       have n0_ : Aside0 (w45.heap[gb241]? = some (.cells #[.int .i64 t247, .int .i64 t248, .int .i64 t249, .int .i64 t250] 85 (0, 0))) := ⟨h0_⟩
       have n1_ : Aside0 (w45.heap[gb242]? = some (.cells #[.int .i64 t251, .int .i64 t252, .int .i64 t253, .int .i64 t254] 85 (0, 0))) := ⟨h1_⟩
       have n2_ : Aside0 (w45.heap[gb255]? = some (.cells #[.int .i64 0, .int .i64 0] 82 (0, 0))) := ⟨h2_⟩
       have n3_ : Aside0 (w45.heap[gb256]? = some (.cells #[.int .i64 0, .int .i64 0] 82 (0, 0))) := ⟨h3_⟩
       have n4_ : Aside0 (w.heap.size ≤ gb255) := ⟨h4_⟩
       have n5_ : Aside0 (w.heap.size ≤ gb255) := ⟨h5_⟩
       have n6_ : Aside0 (gb241 ≠ gb255) := ⟨h6_⟩
       have n7_ : Aside0 (gb255 ≠ gb241) := ⟨h7_⟩
       have n8_ : Aside0 (gb242 ≠ gb255) := ⟨h8_⟩
       have n9_ : Aside0 (gb255 ≠ gb242) := ⟨h9_⟩
       have n10_ : Aside0 (gb256 ≠ gb255) := ⟨h10_⟩
       have n11_ : Aside0 (gb255 ≠ gb256) := ⟨h11_⟩
       have n12_ : Aside0 (w.heap.size ≤ gb256) := ⟨h12_⟩
       have n13_ : Aside0 (w.heap.size ≤ gb256) := ⟨h13_⟩
       have n14_ : Aside0 (gb241 ≠ gb256) := ⟨h14_⟩
       have n15_ : Aside0 (gb256 ≠ gb241) := ⟨h15_⟩
       have n16_ : Aside0 (gb242 ≠ gb256) := ⟨h16_⟩
       have n17_ : Aside0 (gb256 ≠ gb242) := ⟨h17_⟩
       have n18_ : Aside0 (Below w.heap.size w w45) := ⟨h18_⟩
       clear BK241
       clear BK242
       clear HB
       clear h0_ h1_ h2_ h3_ h4_ h5_ h6_ h7_ h8_ h9_ h10_ h11_ h12_ h13_ h14_ h15_ h16_ h17_ h18_
       have BK241 := n0_
       have BK242 := n1_
       have BK255 := n2_
       have BK256 := n3_
       have GW255 := n4_
       have GE255 := n5_
       have NB241_255 := n6_
       have NB255_241 := n7_
       have NB242_255 := n8_
       have NB255_242 := n9_
       have NB256_255 := n10_
       have NB255_256 := n11_
       have GW256 := n12_
       have GE256 := n13_
       have NB241_256 := n14_
       have NB256_241 := n15_
       have NB242_256 := n16_
       have NB256_242 := n17_
       have HB := n18_
       clear n0_ n1_ n2_ n3_ n4_ n5_ n6_ n7_ n8_ n9_ n10_ n11_ n12_ n13_ n14_ n15_ n16_ n17_ n18_
       have hHeld : w45.cell? ⟨gb241, 0, none⟩ = some (.int .i64 t247) ∧ w45.cell? ⟨gb241, 1, none⟩ = some (.int .i64 t248) ∧ w45.cell? ⟨gb241, 2, none⟩ = some (.int .i64 t249) ∧ w45.cell? ⟨gb241, 3, none⟩ = some (.int .i64 t250) := hS_
       refine norm_ (a' := ?_) ?_ ?_
       rotate_left
       ·simp only [putAll, Act.put, List.setIfInBounds_toArray, List.set_cons_zero, List.set_cons_succ]
        rfl
       refine oz HT_ 6 none (fun K hK => ?_)
       have hs46 : w45.cell? ⟨gb255, 0, none⟩ = some (.int .i64 0) := (blk_cell BK255.out 0).trans rfl
       have hfs46 := blk_frozen BK255.out 0
       have hns46_0 := NB241_255.out
       have hns46_1 := NB242_255.out
       have hns46_3 := NB256_255.out
       have hms46_0 := NB255_241.out
       have hms46_1 := NB255_242.out
       have hms46_3 := NB255_256.out
       have hs47 : w45.cell? ⟨gb255, 1, none⟩ = some (.int .i64 0) := (blk_cell BK255.out 1).trans rfl
       have hfs47 := blk_frozen BK255.out 1
       have hns47_0 := NB241_255.out
       have hns47_1 := NB242_255.out
       have hns47_3 := NB256_255.out
       have hms47_0 := NB255_241.out
       have hms47_1 := NB255_242.out
       have hms47_3 := NB255_256.out
       refine skip_ (w1 := ?_) (by rfl) rfl ?_ ?_
       rotate_left
       ·go_simp
        rfl
       refine hK.out _ _ ⟨((cell_far (p := ⟨gb255, _, none⟩) NB241_255.out _).trans (((cell_far (p := ⟨gb255, _, none⟩) NB241_255.out _).trans (hHeld.1)))), ((cell_far (p := ⟨gb255, _, none⟩) NB241_255.out _).trans (((cell_far (p := ⟨gb255, _, none⟩) NB241_255.out _).trans (hHeld.2.1)))), ((cell_far (p := ⟨gb255, _, none⟩) NB241_255.out _).trans (((cell_far (p := ⟨gb255, _, none⟩) NB241_255.out _).trans (hHeld.2.2.1)))), ((cell_far (p := ⟨gb255, _, none⟩) NB241_255.out _).trans (((cell_far (p := ⟨gb255, _, none⟩) NB241_255.out _).trans (hHeld.2.2.2))))⟩ (fun hHeld => ?_)
       clear hK K
       refine oz HT_ 7 none (fun K hK => ?_)
       have hs48 : w45.cell? ⟨gb256, 0, none⟩ = some (.int .i64 0) := (blk_cell BK256.out 0).trans rfl
       have hfs48 := blk_frozen BK256.out 0
       have hns48_0 := NB241_256.out
       have hns48_1 := NB242_256.out
       have hns48_2 := NB255_256.out
       have hms48_0 := NB256_241.out
       have hms48_1 := NB256_242.out
       have hms48_2 := NB256_255.out
       have hs49 : w45.cell? ⟨gb256, 1, none⟩ = some (.int .i64 0) := (blk_cell BK256.out 1).trans rfl
       have hfs49 := blk_frozen BK256.out 1
       have hns49_0 := NB241_256.out
       have hns49_1 := NB242_256.out
       have hns49_2 := NB255_256.out
       have hms49_0 := NB256_241.out
       have hms49_1 := NB256_242.out
       have hms49_2 := NB256_255.out
       refine skip_ (w1 := ?_) (by rfl) rfl ?_ ?_
       rotate_left
       ·go_simp
        rfl
       refine hK.out _ _ ⟨((cell_far (p := ⟨gb256, _, none⟩) NB241_256.out _).trans (((cell_far (p := ⟨gb256, _, none⟩) NB241_256.out _).trans (hHeld.1)))), ((cell_far (p := ⟨gb256, _, none⟩) NB241_256.out _).trans (((cell_far (p := ⟨gb256, _, none⟩) NB241_256.out _).trans (hHeld.2.1)))), ((cell_far (p := ⟨gb256, _, none⟩) NB241_256.out _).trans (((cell_far (p := ⟨gb256, _, none⟩) NB241_256.out _).trans (hHeld.2.2.1)))), ((cell_far (p := ⟨gb256, _, none⟩) NB241_256.out _).trans (((cell_far (p := ⟨gb256, _, none⟩) NB241_256.out _).trans (hHeld.2.2.2))))⟩ (fun hHeld => ?_)
       clear hK K
       refine dz HT_ ?_
       have hnb50 := NB255_241.out
       have hnc50 := NB241_255.out
       have hnb51 := NB255_242.out
       have hnc51 := NB242_255.out
       have hnb52 := NB255_256.out
       have hnc52 := NB256_255.out
       have hcz53_0 : w45.cell? ⟨gb255, 0, none⟩ = some (.int .i64 0) := (blk_cell BK255.out 0).trans rfl
       have hcz53_1 : w45.cell? ⟨gb255, 1, none⟩ = some (.int .i64 0) := (blk_cell BK255.out 1).trans rfl
       have hfz53_0 := blk_frozen BK255.out 0
       have hfz53_1 := blk_frozen BK255.out 1
       have hnb54 := NB242_241.out
       have hnc54 := NB241_242.out
       have hnb55 := NB242_256.out
       have hnc55 := NB256_242.out
       have hcz56_0 : w45.cell? ⟨gb242, 0, none⟩ = some (.int .i64 t251) := (blk_cell BK242.out 0).trans rfl
       have hcz56_1 : w45.cell? ⟨gb242, 1, none⟩ = some (.int .i64 t252) := (blk_cell BK242.out 1).trans rfl
       have hcz56_2 : w45.cell? ⟨gb242, 2, none⟩ = some (.int .i64 t253) := (blk_cell BK242.out 2).trans rfl
       have hcz56_3 : w45.cell? ⟨gb242, 3, none⟩ = some (.int .i64 t254) := (blk_cell BK242.out 3).trans rfl
       have hfz56_0 := blk_frozen BK242.out 0
       have hfz56_1 := blk_frozen BK242.out 1
       have hfz56_2 := blk_frozen BK242.out 2
       have hfz56_3 := blk_frozen BK242.out 3
       go_upto_if 48 with (first | ((with_reducible refine gate_callee (f := 170) rfl ?_); refine gl (some 48) Try.func170 #[.agg #[.int .i64 t247, .int .i64 t248], .agg #[.int .i64 t251, .int .i64 t252]] ?_; (with_reducible refine (impl_BeforePoint.calls t247 t248 t251 t252 t257 _ A28.out).mono ?_); rintro e w57 ⟨rfl, hb⟩; refine ⟨_, rfl, ?_⟩; replace BK241 := Aside0.mk (blk_below (g := gb241) (o := .cells #[.int .i64 t247, .int .i64 t248, .int .i64 t249, .int .i64 t250] 85 (0, 0)) (kz BK241) hb); replace BK242 := Aside0.mk (blk_below (g := gb242) (o := .cells #[.int .i64 t251, .int .i64 t252, .int .i64 t253, .int .i64 t254] 85 (0, 0)) (kz BK242) hb); replace BK255 := Aside0.mk (blk_below (g := gb255) (o := .cells #[.int .i64 t247, .int .i64 t248] 82 (0, 0)) (by (with_reducible repeat (first | refine blk_drewN ?_ _ | refine blk_drew ?_ | refine blk_alloc ?_ _)); refine blk_far ?_ NB255_256.out _; (with_reducible repeat (first | refine blk_drewN ?_ _ | refine blk_drew ?_ | refine blk_alloc ?_ _)); refine blk_far ?_ NB255_256.out _; (with_reducible repeat (first | refine blk_drewN ?_ _ | refine blk_drew ?_ | refine blk_alloc ?_ _)); refine blk_put (cs := #[.int .i64 t247, .int .i64 0]) ?_ 1 _ rfl; (with_reducible repeat (first | refine blk_drewN ?_ _ | refine blk_drew ?_ | refine blk_alloc ?_ _)); refine blk_put (cs := #[.int .i64 0, .int .i64 0]) ?_ 0 _ rfl; (with_reducible repeat (first | refine blk_drewN ?_ _ | refine blk_drew ?_ | refine blk_alloc ?_ _)); exact BK255.out) hb); replace BK256 := Aside0.mk (blk_below (g := gb256) (o := .cells #[.int .i64 t249, .int .i64 t250] 82 (0, 0)) (by (with_reducible repeat (first | refine blk_drewN ?_ _ | refine blk_drew ?_ | refine blk_alloc ?_ _)); refine blk_put (cs := #[.int .i64 t249, .int .i64 0]) ?_ 1 _ rfl; (with_reducible repeat (first | refine blk_drewN ?_ _ | refine blk_drew ?_ | refine blk_alloc ?_ _)); refine blk_put (cs := #[.int .i64 0, .int .i64 0]) ?_ 0 _ rfl; (with_reducible repeat (first | refine blk_drewN ?_ _ | refine blk_drew ?_ | refine blk_alloc ?_ _)); refine blk_far ?_ NB256_255.out _; (with_reducible repeat (first | refine blk_drewN ?_ _ | refine blk_drew ?_ | refine blk_alloc ?_ _)); refine blk_far ?_ NB256_255.out _; (with_reducible repeat (first | refine blk_drewN ?_ _ | refine blk_drew ?_ | refine blk_alloc ?_ _)); exact BK256.out) hb); replace HB := Aside0.mk (below_step bzs hb); (try clear hb)))
       (try simp only [Act.put, List.setIfInBounds_toArray, List.set_cons_zero, List.set_cons_succ])
       go_cut [] (fun wc => ∃ (kq : Nat) (x256000_28 : Int) (x256001_28 : Int), Aside0 (impl_HowMeet.j2 kq t251 t252 t253 t254 x256000_28 x256001_28 t249 t250 = some r) ∧ Aside0 (kq ≤ kj19) ∧ Aside0 (wc.heap[gb241]? = some (.cells #[.int .i64 t247, .int .i64 t248, .int .i64 t249, .int .i64 t250] 85 (0, 0))) ∧ Aside0 (wc.heap[gb242]? = some (.cells #[.int .i64 t251, .int .i64 t252, .int .i64 t253, .int .i64 t254] 85 (0, 0))) ∧ Aside0 (wc.heap[gb255]? = some (.cells #[.int .i64 x256000_28, .int .i64 x256001_28] 82 (0, 0))) ∧ Aside0 (wc.heap[gb256]? = some (.cells #[.int .i64 t249, .int .i64 t250] 82 (0, 0))) ∧ Aside0 (Below w.heap.size w wc))
       case first =>
        have H := HC29.out
        clear HC29
        by_cases c58 : t257 = true
        ·subst c58
         have H1 : (impl_HowMeet.j2 kj19 t251 t252 t253 t254 t251 t252 t249 t250) = some r := by rw [if_pos rfl] at H; exact H
         clear H
         have H := H1
         clear H1
         have H' := Aside0.mk H
         clear H
         have hnb59 := NB242_241.out
         have hnc59 := NB241_242.out
         have hnb60 := NB242_255.out
         have hnc60 := NB255_242.out
         have hnb61 := NB242_256.out
         have hnc61 := NB256_242.out
         have hcz62_0 : w57.cell? ⟨gb242, 0, none⟩ = some (.int .i64 t251) := (blk_cell BK242.out 0).trans rfl
         have hcz62_1 : w57.cell? ⟨gb242, 1, none⟩ = some (.int .i64 t252) := (blk_cell BK242.out 1).trans rfl
         have hcz62_2 : w57.cell? ⟨gb242, 2, none⟩ = some (.int .i64 t253) := (blk_cell BK242.out 2).trans rfl
         have hcz62_3 : w57.cell? ⟨gb242, 3, none⟩ = some (.int .i64 t254) := (blk_cell BK242.out 3).trans rfl
         have hfz62_0 := blk_frozen BK242.out 0
         have hfz62_1 := blk_frozen BK242.out 1
         have hfz62_2 := blk_frozen BK242.out 2
         have hfz62_3 := blk_frozen BK242.out 3
         have hnb63 := NB255_241.out
         have hnc63 := NB241_255.out
         have hnb64 := NB255_256.out
         have hnc64 := NB256_255.out
         have hcz65_0 : w57.cell? ⟨gb255, 0, none⟩ = some (.int .i64 t247) := (blk_cell BK255.out 0).trans rfl
         have hcz65_1 : w57.cell? ⟨gb255, 1, none⟩ = some (.int .i64 t248) := (blk_cell BK255.out 1).trans rfl
         have hfz65_0 := blk_frozen BK255.out 0
         have hfz65_1 := blk_frozen BK255.out 1
         go_wp2
         go_meet
         case rel => exact ⟨_, (t251), (t252), H', ⟨by have := HJ2.out; have := HJ19.out; first | omega | exact Nat.le_refl _⟩, ⟨kz BK241⟩, ⟨kz BK242⟩, ⟨by (with_reducible repeat (first | refine blk_drewN ?_ _ | refine blk_drew ?_ | refine blk_alloc ?_ _)); refine blk_put (cs := #[.int .i64 t251, .int .i64 t248]) ?_ 1 _ rfl; (with_reducible repeat (first | refine blk_drewN ?_ _ | refine blk_drew ?_ | refine blk_alloc ?_ _)); refine blk_put (cs := #[.int .i64 t247, .int .i64 t248]) ?_ 0 _ rfl; (with_reducible repeat (first | refine blk_drewN ?_ _ | refine blk_drew ?_ | refine blk_alloc ?_ _)); exact BK255.out⟩, ⟨kz BK256⟩, ⟨bzs⟩⟩
        ·replace c58 := Bool.eq_false_iff.mpr c58
         subst c58
         have H1 : (impl_HowMeet.j2 kj19 t251 t252 t253 t254 t247 t248 t249 t250) = some r := by rw [if_neg (show ¬ (false = true) by decide)] at H; exact H
         clear H
         have H := H1
         clear H1
         have H' := Aside0.mk H
         clear H
         go_wp2
         go_meet
         case rel => exact ⟨_, (t247), (t248), H', ⟨by have := HJ2.out; have := HJ19.out; first | omega | exact Nat.le_refl _⟩, ⟨kz BK241⟩, ⟨kz BK242⟩, ⟨kz BK255⟩, ⟨kz BK256⟩, ⟨bzs⟩⟩
       case rest =>
        clear HC29
        try clear c1
        try clear c2
        try clear p2
        try clear c5
        try clear c6
        try clear c7
        try clear c9
        try clear c14
        try clear c15
        try clear c16
        try clear c17
        try clear c24
        try clear c24b0
        try clear c24b1
        try clear c25
        try clear c50
        try clear c51
        try clear c52
        try clear c54
        try clear c55
        try clear c58
        try clear c59
        try clear c60
        try clear c61
        try clear c63
        try clear c64
        try clear hcz10_0
        try clear hcz10_1
        try clear hcz10_2
        try clear hcz10_3
        try clear hcz12_0
        try clear hcz12_1
        try clear hcz12_2
        try clear hcz12_3
        try clear hcz15_0
        try clear hcz15_1
        try clear hcz15_2
        try clear hcz15_3
        try clear hcz53_0
        try clear hcz53_1
        try clear hcz56_0
        try clear hcz56_1
        try clear hcz56_2
        try clear hcz56_3
        try clear hcz62_0
        try clear hcz62_1
        try clear hcz62_2
        try clear hcz62_3
        try clear hcz65_0
        try clear hcz65_1
        try clear hfz10_0
        try clear hfz10_1
        try clear hfz10_2
        try clear hfz10_3
        try clear hfz12_0
        try clear hfz12_1
        try clear hfz12_2
        try clear hfz12_3
        try clear hfz15_0
        try clear hfz15_1
        try clear hfz15_2
        try clear hfz15_3
        try clear hfz53_0
        try clear hfz53_1
        try clear hfz56_0
        try clear hfz56_1
        try clear hfz56_2
        try clear hfz56_3
        try clear hfz62_0
        try clear hfz62_1
        try clear hfz62_2
        try clear hfz62_3
        try clear hfz65_0
        try clear hfz65_1
        try clear p2
        obtain ⟨kq, x256000_28, x256001_28, HA, HJ28, BK241, BK242, BK255, BK256, HB⟩ := hcut
        cases kq with
        | zero => exact absurd HA.out (by simp [impl_HowMeet.j2])
        | succ kj28 =>
         have H := HA.out
         clear HA
         simp only [impl_HowMeet.j2] at H
         replace H := Option.bind_eq_some_iff.mp H
         obtain ⟨t258, A660, H⟩ := H
         replace H : (if t258 = true then (impl_HowMeet.j3 kj28 x256000_28 x256001_28 t253 t254) else (impl_HowMeet.j3 kj28 x256000_28 x256001_28 t249 t250)) = some r := H
         have A66 := Aside0.mk A660
         clear A660
         have HC67 := Aside0.mk H
         clear H
         have hnb68 := NB242_241.out
         have hnc68 := NB241_242.out
         have hnb69 := NB242_255.out
         have hnc69 := NB255_242.out
         have hnb70 := NB242_256.out
         have hnc70 := NB256_242.out
         have hcz71_0 : wc.cell? ⟨gb242, 0, none⟩ = some (.int .i64 t251) := (blk_cell BK242.out 0).trans rfl
         have hcz71_1 : wc.cell? ⟨gb242, 1, none⟩ = some (.int .i64 t252) := (blk_cell BK242.out 1).trans rfl
         have hcz71_2 : wc.cell? ⟨gb242, 2, none⟩ = some (.int .i64 t253) := (blk_cell BK242.out 2).trans rfl
         have hcz71_3 : wc.cell? ⟨gb242, 3, none⟩ = some (.int .i64 t254) := (blk_cell BK242.out 3).trans rfl
         have hfz71_0 := blk_frozen BK242.out 0
         have hfz71_1 := blk_frozen BK242.out 1
         have hfz71_2 := blk_frozen BK242.out 2
         have hfz71_3 := blk_frozen BK242.out 3
         have hnb72 := NB256_241.out
         have hnc72 := NB241_256.out
         have hnb73 := NB256_255.out
         have hnc73 := NB255_256.out
         have hcz74_0 : wc.cell? ⟨gb256, 0, none⟩ = some (.int .i64 t249) := (blk_cell BK256.out 0).trans rfl
         have hcz74_1 : wc.cell? ⟨gb256, 1, none⟩ = some (.int .i64 t250) := (blk_cell BK256.out 1).trans rfl
         have hfz74_0 := blk_frozen BK256.out 0
         have hfz74_1 := blk_frozen BK256.out 1
         go_upto_if 54 with (first | ((with_reducible refine gate_callee (f := 170) rfl ?_); refine gl (some 54) Try.func170 #[.agg #[.int .i64 t253, .int .i64 t254], .agg #[.int .i64 t249, .int .i64 t250]] ?_; (with_reducible refine (impl_BeforePoint.calls t253 t254 t249 t250 t258 _ A66.out).mono ?_); rintro e w75 ⟨rfl, hb⟩; refine ⟨_, rfl, ?_⟩; replace BK241 := Aside0.mk (blk_below (g := gb241) (o := .cells #[.int .i64 t247, .int .i64 t248, .int .i64 t249, .int .i64 t250] 85 (0, 0)) (kz BK241) hb); replace BK242 := Aside0.mk (blk_below (g := gb242) (o := .cells #[.int .i64 t251, .int .i64 t252, .int .i64 t253, .int .i64 t254] 85 (0, 0)) (kz BK242) hb); replace BK255 := Aside0.mk (blk_below (g := gb255) (o := .cells #[.int .i64 x256000_28, .int .i64 x256001_28] 82 (0, 0)) (kz BK255) hb); replace BK256 := Aside0.mk (blk_below (g := gb256) (o := .cells #[.int .i64 t249, .int .i64 t250] 82 (0, 0)) (kz BK256) hb); replace HB := Aside0.mk (below_step bzs hb); (try clear hb)))
         (try simp only [Act.put, List.setIfInBounds_toArray, List.set_cons_zero, List.set_cons_succ])
         go_cut [] (fun wc => ∃ (kq : Nat) (x257000_66 : Int) (x257001_66 : Int), Aside0 (impl_HowMeet.j3 kq x256000_28 x256001_28 x257000_66 x257001_66 = some r) ∧ Aside0 (kq ≤ kj28) ∧ Aside0 (wc.heap[gb241]? = some (.cells #[.int .i64 t247, .int .i64 t248, .int .i64 t249, .int .i64 t250] 85 (0, 0))) ∧ Aside0 (wc.heap[gb242]? = some (.cells #[.int .i64 t251, .int .i64 t252, .int .i64 t253, .int .i64 t254] 85 (0, 0))) ∧ Aside0 (wc.heap[gb255]? = some (.cells #[.int .i64 x256000_28, .int .i64 x256001_28] 82 (0, 0))) ∧ Aside0 (wc.heap[gb256]? = some (.cells #[.int .i64 x257000_66, .int .i64 x257001_66] 82 (0, 0))) ∧ Aside0 (Below w.heap.size w wc))
         case first =>
          have H := HC67.out
          clear HC67
          by_cases c76 : t258 = true
          ·subst c76
           have H1 : (impl_HowMeet.j3 kj28 x256000_28 x256001_28 t253 t254) = some r := by rw [if_pos rfl] at H; exact H
           clear H
           have H := H1
           clear H1
           have H' := Aside0.mk H
           clear H
           have hnb77 := NB242_241.out
           have hnc77 := NB241_242.out
           have hnb78 := NB242_255.out
           have hnc78 := NB255_242.out
           have hnb79 := NB242_256.out
           have hnc79 := NB256_242.out
           have hcz80_0 : w75.cell? ⟨gb242, 0, none⟩ = some (.int .i64 t251) := (blk_cell BK242.out 0).trans rfl
           have hcz80_1 : w75.cell? ⟨gb242, 1, none⟩ = some (.int .i64 t252) := (blk_cell BK242.out 1).trans rfl
           have hcz80_2 : w75.cell? ⟨gb242, 2, none⟩ = some (.int .i64 t253) := (blk_cell BK242.out 2).trans rfl
           have hcz80_3 : w75.cell? ⟨gb242, 3, none⟩ = some (.int .i64 t254) := (blk_cell BK242.out 3).trans rfl
           have hfz80_0 := blk_frozen BK242.out 0
           have hfz80_1 := blk_frozen BK242.out 1
           have hfz80_2 := blk_frozen BK242.out 2
           have hfz80_3 := blk_frozen BK242.out 3
           have hnb81 := NB256_241.out
           have hnc81 := NB241_256.out
           have hnb82 := NB256_255.out
           have hnc82 := NB255_256.out
           have hcz83_0 : w75.cell? ⟨gb256, 0, none⟩ = some (.int .i64 t249) := (blk_cell BK256.out 0).trans rfl
           have hcz83_1 : w75.cell? ⟨gb256, 1, none⟩ = some (.int .i64 t250) := (blk_cell BK256.out 1).trans rfl
           have hfz83_0 := blk_frozen BK256.out 0
           have hfz83_1 := blk_frozen BK256.out 1
           go_wp2
           go_meet
           case rel => exact ⟨_, (t253), (t254), H', ⟨by have := HJ2.out; have := HJ19.out; have := HJ28.out; first | omega | exact Nat.le_refl _⟩, ⟨kz BK241⟩, ⟨kz BK242⟩, ⟨kz BK255⟩, ⟨by (with_reducible repeat (first | refine blk_drewN ?_ _ | refine blk_drew ?_ | refine blk_alloc ?_ _)); refine blk_put (cs := #[.int .i64 t253, .int .i64 t250]) ?_ 1 _ rfl; (with_reducible repeat (first | refine blk_drewN ?_ _ | refine blk_drew ?_ | refine blk_alloc ?_ _)); refine blk_put (cs := #[.int .i64 t249, .int .i64 t250]) ?_ 0 _ rfl; (with_reducible repeat (first | refine blk_drewN ?_ _ | refine blk_drew ?_ | refine blk_alloc ?_ _)); exact BK256.out⟩, ⟨bzs⟩⟩
          ·replace c76 := Bool.eq_false_iff.mpr c76
           subst c76
           have H1 : (impl_HowMeet.j3 kj28 x256000_28 x256001_28 t249 t250) = some r := by rw [if_neg (show ¬ (false = true) by decide)] at H; exact H
           clear H
           have H := H1
           clear H1
           have H' := Aside0.mk H
           clear H
           go_wp2
           go_meet
           case rel => exact ⟨_, (t249), (t250), H', ⟨by have := HJ2.out; have := HJ19.out; have := HJ28.out; first | omega | exact Nat.le_refl _⟩, ⟨kz BK241⟩, ⟨kz BK242⟩, ⟨kz BK255⟩, ⟨kz BK256⟩, ⟨bzs⟩⟩
         case rest =>
          clear HC67
          try clear c1
          try clear c2
          try clear p2
          try clear c5
          try clear c6
          try clear c7
          try clear c8
          try clear c9
          try clear c14
          try clear c15
          try clear c16
          try clear c17
          try clear c24
          try clear c24b0
          try clear c24b1
          try clear c25
          try clear c50
          try clear c51
          try clear c52
          try clear c54
          try clear c55
          try clear c58
          try clear c59
          try clear c60
          try clear c61
          try clear c63
          try clear c64
          try clear c68
          try clear c69
          try clear c70
          try clear c72
          try clear c73
          try clear c76
          try clear c77
          try clear c78
          try clear c79
          try clear c81
          try clear c82
          try clear hcz10_0
          try clear hcz10_1
          try clear hcz10_2
          try clear hcz10_3
          try clear hcz12_0
          try clear hcz12_1
          try clear hcz12_2
          try clear hcz12_3
          try clear hcz15_0
          try clear hcz15_1
          try clear hcz15_2
          try clear hcz15_3
          try clear hcz53_0
          try clear hcz53_1
          try clear hcz56_0
          try clear hcz56_1
          try clear hcz56_2
          try clear hcz56_3
          try clear hcz62_0
          try clear hcz62_1
          try clear hcz62_2
          try clear hcz62_3
          try clear hcz65_0
          try clear hcz65_1
          try clear hcz71_0
          try clear hcz71_1
          try clear hcz71_2
          try clear hcz71_3
          try clear hcz74_0
          try clear hcz74_1
          try clear hcz80_0
          try clear hcz80_1
          try clear hcz80_2
          try clear hcz80_3
          try clear hcz83_0
          try clear hcz83_1
          try clear hfz10_0
          try clear hfz10_1
          try clear hfz10_2
          try clear hfz10_3
          try clear hfz12_0
          try clear hfz12_1
          try clear hfz12_2
          try clear hfz12_3
          try clear hfz15_0
          try clear hfz15_1
          try clear hfz15_2
          try clear hfz15_3
          try clear hfz53_0
          try clear hfz53_1
          try clear hfz56_0
          try clear hfz56_1
          try clear hfz56_2
          try clear hfz56_3
          try clear hfz62_0
          try clear hfz62_1
          try clear hfz62_2
          try clear hfz62_3
          try clear hfz65_0
          try clear hfz65_1
          try clear hfz71_0
          try clear hfz71_1
          try clear hfz71_2
          try clear hfz71_3
          try clear hfz74_0
          try clear hfz74_1
          try clear hfz80_0
          try clear hfz80_1
          try clear hfz80_2
          try clear hfz80_3
          try clear hfz83_0
          try clear hfz83_1
          try clear p2
          obtain ⟨kq, x257000_66, x257001_66, HA, HJ66, BK241, BK242, BK255, BK256, HB⟩ := hcut
          cases kq with
          | zero => exact absurd HA.out (by simp [impl_HowMeet.j3])
          | succ kj66 =>
           have H := HA.out
           clear HA
           simp only [impl_HowMeet.j3] at H
           replace H := Option.bind_eq_some_iff.mp H
           obtain ⟨t259, A840, H⟩ := H
           replace H : (if t259 = true then (some 0) else (if (x256000_28 == x257000_66 && (x256001_28 == x257001_66)) = true then (some 1) else (some 3))) = some r := H
           have A84 := Aside0.mk A840
           clear A840
           by_cases c85 : t259 = true
           ·subst c85
            have H1 : (some 0) = some r := by rw [if_pos rfl] at H; exact H
            clear H
            have H := H1
            clear H1
            obtain rfl := Option.some.inj H
            have hnb86 := NB256_241.out
            have hnc86 := NB241_256.out
            have hnb87 := NB256_242.out
            have hnc87 := NB242_256.out
            have hnb88 := NB256_255.out
            have hnc88 := NB255_256.out
            have hcz89_0 : wc.cell? ⟨gb256, 0, none⟩ = some (.int .i64 x257000_66) := (blk_cell BK256.out 0).trans rfl
            have hcz89_1 : wc.cell? ⟨gb256, 1, none⟩ = some (.int .i64 x257001_66) := (blk_cell BK256.out 1).trans rfl
            have hfz89_0 := blk_frozen BK256.out 0
            have hfz89_1 := blk_frozen BK256.out 1
            have hnb90 := NB255_241.out
            have hnc90 := NB241_255.out
            have hnb91 := NB255_242.out
            have hnc91 := NB242_255.out
            have hcz92_0 : wc.cell? ⟨gb255, 0, none⟩ = some (.int .i64 x256000_28) := (blk_cell BK255.out 0).trans rfl
            have hcz92_1 : wc.cell? ⟨gb255, 1, none⟩ = some (.int .i64 x256001_28) := (blk_cell BK255.out 1).trans rfl
            have hfz92_0 := blk_frozen BK255.out 0
            have hfz92_1 := blk_frozen BK255.out 1
            go_wp2_with (first | ((with_reducible refine gate_callee (f := 170) rfl ?_); refine gl (some 60) Try.func170 #[.agg #[.int .i64 x257000_66, .int .i64 x257001_66], .agg #[.int .i64 x256000_28, .int .i64 x256001_28]] ?_; (with_reducible refine (impl_BeforePoint.calls x257000_66 x257001_66 x256000_28 x256001_28 true _ A84.out).mono ?_); rintro e w93 ⟨rfl, hb⟩; refine ⟨_, rfl, ?_⟩; replace BK241 := Aside0.mk (blk_below (g := gb241) (o := .cells #[.int .i64 t247, .int .i64 t248, .int .i64 t249, .int .i64 t250] 85 (0, 0)) (kz BK241) hb); replace BK242 := Aside0.mk (blk_below (g := gb242) (o := .cells #[.int .i64 t251, .int .i64 t252, .int .i64 t253, .int .i64 t254] 85 (0, 0)) (kz BK242) hb); replace BK255 := Aside0.mk (blk_below (g := gb255) (o := .cells #[.int .i64 x256000_28, .int .i64 x256001_28] 82 (0, 0)) (kz BK255) hb); replace BK256 := Aside0.mk (blk_below (g := gb256) (o := .cells #[.int .i64 x257000_66, .int .i64 x257001_66] 82 (0, 0)) (kz BK256) hb); replace HB := Aside0.mk (below_step bzs hb); (try clear hb)))
            go_ret
            exact ⟨ez, bzs⟩
           ·replace c85 := Bool.eq_false_iff.mpr c85
            subst c85
            have H1 : (if (x256000_28 == x257000_66 && (x256001_28 == x257001_66)) = true then (some 1) else (some 3)) = some r := by rw [if_neg (show ¬ (false = true) by decide)] at H; exact H
            clear H
            have H := H1
            clear H1
            by_cases c94 : (x256000_28 == x257000_66 && (x256001_28 == x257001_66)) = true
            ·rw [if_pos c94] at H
             have c94b0 : (x256000_28 == x257000_66 && (x256001_28 == x257001_66)) = true := c94
             (try (have c94b1 : decide (x256000_28 = x257000_66 && (x256001_28 == x257001_66)) = true := by simpa using c94))
             (try (have c94b2 : (x256000_28 == x257000_66 && (x256001_28 == x257001_66)) = true := by simpa using c94))
             clear c94
             obtain rfl := Option.some.inj H
             have hnb95 := NB256_241.out
             have hnc95 := NB241_256.out
             have hnb96 := NB256_242.out
             have hnc96 := NB242_256.out
             have hnb97 := NB256_255.out
             have hnc97 := NB255_256.out
             have hcz98_0 : wc.cell? ⟨gb256, 0, none⟩ = some (.int .i64 x257000_66) := (blk_cell BK256.out 0).trans rfl
             have hcz98_1 : wc.cell? ⟨gb256, 1, none⟩ = some (.int .i64 x257001_66) := (blk_cell BK256.out 1).trans rfl
             have hfz98_0 := blk_frozen BK256.out 0
             have hfz98_1 := blk_frozen BK256.out 1
             have hnb99 := NB255_241.out
             have hnc99 := NB241_255.out
             have hnb100 := NB255_242.out
             have hnc100 := NB242_255.out
             have hcz101_0 : wc.cell? ⟨gb255, 0, none⟩ = some (.int .i64 x256000_28) := (blk_cell BK255.out 0).trans rfl
             have hcz101_1 : wc.cell? ⟨gb255, 1, none⟩ = some (.int .i64 x256001_28) := (blk_cell BK255.out 1).trans rfl
             have hfz101_0 := blk_frozen BK255.out 0
             have hfz101_1 := blk_frozen BK255.out 1
             go_wp2_with (first | ((with_reducible refine gate_callee (f := 170) rfl ?_); refine gl (some 60) Try.func170 #[.agg #[.int .i64 x257000_66, .int .i64 x257001_66], .agg #[.int .i64 x256000_28, .int .i64 x256001_28]] ?_; (with_reducible refine (impl_BeforePoint.calls x257000_66 x257001_66 x256000_28 x256001_28 false _ A84.out).mono ?_); rintro e w102 ⟨rfl, hb⟩; refine ⟨_, rfl, ?_⟩; replace BK241 := Aside0.mk (blk_below (g := gb241) (o := .cells #[.int .i64 t247, .int .i64 t248, .int .i64 t249, .int .i64 t250] 85 (0, 0)) (kz BK241) hb); replace BK242 := Aside0.mk (blk_below (g := gb242) (o := .cells #[.int .i64 t251, .int .i64 t252, .int .i64 t253, .int .i64 t254] 85 (0, 0)) (kz BK242) hb); replace BK255 := Aside0.mk (blk_below (g := gb255) (o := .cells #[.int .i64 x256000_28, .int .i64 x256001_28] 82 (0, 0)) (kz BK255) hb); replace BK256 := Aside0.mk (blk_below (g := gb256) (o := .cells #[.int .i64 x257000_66, .int .i64 x257001_66] 82 (0, 0)) (kz BK256) hb); replace HB := Aside0.mk (below_step bzs hb); (try clear hb); have hcz103_0 : w102.cell? ⟨gb255, 0, none⟩ = some (.int .i64 x256000_28) := (blk_cell BK255.out 0).trans rfl; have hcz103_1 : w102.cell? ⟨gb255, 1, none⟩ = some (.int .i64 x256001_28) := (blk_cell BK255.out 1).trans rfl; have hfz103_0 := blk_frozen BK255.out 0; have hfz103_1 := blk_frozen BK255.out 1; have hcz104_0 : w102.cell? ⟨gb256, 0, none⟩ = some (.int .i64 x257000_66) := (blk_cell BK256.out 0).trans rfl; have hcz104_1 : w102.cell? ⟨gb256, 1, none⟩ = some (.int .i64 x257001_66) := (blk_cell BK256.out 1).trans rfl; have hfz104_0 := blk_frozen BK256.out 0; have hfz104_1 := blk_frozen BK256.out 1))
             go_ret
             exact ⟨ez, bzs⟩
            ·rw [if_neg c94] at H
             have c94b0 : (x256000_28 == x257000_66 && (x256001_28 == x257001_66)) = false := by simpa using c94
             (try (have c94b1 : decide (x256000_28 = x257000_66 && (x256001_28 == x257001_66)) = false := by simpa using c94))
             (try (have c94b2 : (x256000_28 == x257000_66 && (x256001_28 == x257001_66)) = false := by simpa using c94))
             (try (have c94b3 : ¬ (x256000_28 = x257000_66 && (x256001_28 == x257001_66)) := by simpa using c94))
             clear c94
             obtain rfl := Option.some.inj H
             have hnb105 := NB256_241.out
             have hnc105 := NB241_256.out
             have hnb106 := NB256_242.out
             have hnc106 := NB242_256.out
             have hnb107 := NB256_255.out
             have hnc107 := NB255_256.out
             have hcz108_0 : wc.cell? ⟨gb256, 0, none⟩ = some (.int .i64 x257000_66) := (blk_cell BK256.out 0).trans rfl
             have hcz108_1 : wc.cell? ⟨gb256, 1, none⟩ = some (.int .i64 x257001_66) := (blk_cell BK256.out 1).trans rfl
             have hfz108_0 := blk_frozen BK256.out 0
             have hfz108_1 := blk_frozen BK256.out 1
             have hnb109 := NB255_241.out
             have hnc109 := NB241_255.out
             have hnb110 := NB255_242.out
             have hnc110 := NB242_255.out
             have hcz111_0 : wc.cell? ⟨gb255, 0, none⟩ = some (.int .i64 x256000_28) := (blk_cell BK255.out 0).trans rfl
             have hcz111_1 : wc.cell? ⟨gb255, 1, none⟩ = some (.int .i64 x256001_28) := (blk_cell BK255.out 1).trans rfl
             have hfz111_0 := blk_frozen BK255.out 0
             have hfz111_1 := blk_frozen BK255.out 1
             go_wp2_with (first | ((with_reducible refine gate_callee (f := 170) rfl ?_); refine gl (some 60) Try.func170 #[.agg #[.int .i64 x257000_66, .int .i64 x257001_66], .agg #[.int .i64 x256000_28, .int .i64 x256001_28]] ?_; (with_reducible refine (impl_BeforePoint.calls x257000_66 x257001_66 x256000_28 x256001_28 false _ A84.out).mono ?_); rintro e w112 ⟨rfl, hb⟩; refine ⟨_, rfl, ?_⟩; replace BK241 := Aside0.mk (blk_below (g := gb241) (o := .cells #[.int .i64 t247, .int .i64 t248, .int .i64 t249, .int .i64 t250] 85 (0, 0)) (kz BK241) hb); replace BK242 := Aside0.mk (blk_below (g := gb242) (o := .cells #[.int .i64 t251, .int .i64 t252, .int .i64 t253, .int .i64 t254] 85 (0, 0)) (kz BK242) hb); replace BK255 := Aside0.mk (blk_below (g := gb255) (o := .cells #[.int .i64 x256000_28, .int .i64 x256001_28] 82 (0, 0)) (kz BK255) hb); replace BK256 := Aside0.mk (blk_below (g := gb256) (o := .cells #[.int .i64 x257000_66, .int .i64 x257001_66] 82 (0, 0)) (kz BK256) hb); replace HB := Aside0.mk (below_step bzs hb); (try clear hb); have hcz113_0 : w112.cell? ⟨gb255, 0, none⟩ = some (.int .i64 x256000_28) := (blk_cell BK255.out 0).trans rfl; have hcz113_1 : w112.cell? ⟨gb255, 1, none⟩ = some (.int .i64 x256001_28) := (blk_cell BK255.out 1).trans rfl; have hfz113_0 := blk_frozen BK255.out 0; have hfz113_1 := blk_frozen BK255.out 1; have hcz114_0 : w112.cell? ⟨gb256, 0, none⟩ = some (.int .i64 x257000_66) := (blk_cell BK256.out 0).trans rfl; have hcz114_1 : w112.cell? ⟨gb256, 1, none⟩ = some (.int .i64 x257001_66) := (blk_cell BK256.out 1).trans rfl; have hfz114_0 := blk_frozen BK256.out 0; have hfz114_1 := blk_frozen BK256.out 1))
             go_ret
             exact ⟨ez, bzs⟩
      ·replace c25 := Bool.eq_false_iff.mpr c25
       subst c25
       have H1 : (if (wrap64 (t245 * t246)) < 0 then ((impl_SideOf.f a1_0 a1_1 a1_2 a1_3 a0_0 a0_1).bind fun t260 => ((impl_SideOf.f a1_0 a1_1 a1_2 a1_3 a0_2 a0_3).bind fun t261 => (impl_HowMeet.j4 kj19 (decide ((wrap64 (t260 * t261)) < 0)) a0_0 a0_1 a0_2 a0_3 a1_0 a1_1 a1_2 a1_3))) else (impl_HowMeet.j4 kj19 false a0_0 a0_1 a0_2 a0_3 a1_0 a1_1 a1_2 a1_3)) = some r := by rw [if_neg (show ¬ (false = true) by decide)] at H; exact H
       clear H
       have H := H1
       clear H1
       have HC115 := Aside0.mk H
       clear H
       go_upto_region 16 with (fail)
       go_cut [86] (fun v86 wc => ∃ (kq : Nat) (x86_114 : Bool), v86 = .bool x86_114 ∧ Aside0 (impl_HowMeet.j4 kq x86_114 a0_0 a0_1 a0_2 a0_3 a1_0 a1_1 a1_2 a1_3 = some r) ∧ Aside0 (kq ≤ kj19) ∧ Aside0 (wc.heap[gb241]? = some (.cells #[.int .i64 a0_0, .int .i64 a0_1, .int .i64 a0_2, .int .i64 a0_3] 85 (0, 0))) ∧ Aside0 (wc.heap[gb242]? = some (.cells #[.int .i64 a1_0, .int .i64 a1_1, .int .i64 a1_2, .int .i64 a1_3] 85 (0, 0))) ∧ Aside0 (Below w.heap.size w wc))
       case first =>
        have H := HC115.out
        clear HC115
        by_cases c116 : (wrap64 (t245 * t246)) < 0
        ·rw [if_pos c116] at H
         have c116b0 : decide ((wrap64 (t245 * t246)) < 0) = true := decide_eq_true c116
         clear c116
         (first | rw [c116b0] | (simp only [i64_w, i32_w]; rw [c116b0]) | skip)
         replace H := Option.bind_eq_some_iff.mp H
         obtain ⟨t260, A1170, H⟩ := H
         replace H : ((impl_SideOf.f a1_0 a1_1 a1_2 a1_3 a0_2 a0_3).bind fun t261 => (impl_HowMeet.j4 kj19 (decide ((wrap64 (t260 * t261)) < 0)) a0_0 a0_1 a0_2 a0_3 a1_0 a1_1 a1_2 a1_3)) = some r := H
         have A117 := Aside0.mk A1170
         clear A1170
         replace H := Option.bind_eq_some_iff.mp H
         obtain ⟨t261, A1180, H⟩ := H
         replace H : (impl_HowMeet.j4 kj19 (decide ((wrap64 (t260 * t261)) < 0)) a0_0 a0_1 a0_2 a0_3 a1_0 a1_1 a1_2 a1_3) = some r := H
         have A118 := Aside0.mk A1180
         clear A1180
         have H' := Aside0.mk H
         clear H
         try go_wp2
         replace BK241 := Aside0.mk (blk_drew BK241.out)
         replace BK242 := Aside0.mk (blk_drew BK242.out)
         replace HB := Aside0.mk (below_drew1 HB.out)
         refine start_ (n := 22) (S := fun w' => w'.cell? ⟨gb242, 0, none⟩ = some (.int .i64 a1_0) ∧ w'.cell? ⟨gb242, 1, none⟩ = some (.int .i64 a1_1) ∧ w'.cell? ⟨gb242, 2, none⟩ = some (.int .i64 a1_2) ∧ w'.cell? ⟨gb242, 3, none⟩ = some (.int .i64 a1_3) ∧ w'.cell? ⟨gb241, 0, none⟩ = some (.int .i64 a0_0) ∧ w'.cell? ⟨gb241, 1, none⟩ = some (.int .i64 a0_1) ∧ w'.cell? ⟨gb241, 2, none⟩ = some (.int .i64 a0_2) ∧ w'.cell? ⟨gb241, 3, none⟩ = some (.int .i64 a0_3)) (ds := []) #[F,F,F,F,F,F,F,F,F,F,F,F,F,F,F,F,F,F,F,F,F,F] (by kernel_rfl) rfl rfl ⟨(blk_cell BK242.out 0).trans rfl, (blk_cell BK242.out 1).trans rfl, (blk_cell BK242.out 2).trans rfl, (blk_cell BK242.out 3).trans rfl, (blk_cell BK241.out 0).trans rfl, (blk_cell BK241.out 1).trans rfl, (blk_cell BK241.out 2).trans rfl, (blk_cell BK241.out 3).trans rfl⟩ (fun hHeld => ?_); refine with_tabW impl_HowMeet.tab16 impl_HowMeet.bits16 (fun HT_ HW_ => ?_)
         generalize wc.drew = w119 at BK241 BK242 HB hHeld ⊢
         refine pz HT_ 0 65 ?_; refine pz HT_ 1 66 ?_; refine pz HT_ 2 67 ?_; refine pz HT_ 3 68 ?_; refine pz HT_ 4 69 ?_; refine pz HT_ 5 70 ?_; refine pz HT_ 7 72 ?_; refine pz HT_ 9 74 ?_; refine pz HT_ 12 77 ?_; refine pz HT_ 14 79 ?_; refine pz HT_ 16 81 ?_; refine tz8 HT_ HW_ hHeld 6 71 ?_; refine tz8 HT_ HW_ hHeld 8 73 ?_; refine tz8 HT_ HW_ hHeld 10 75 ?_; refine tz8 HT_ HW_ hHeld 13 78 ?_; refine tz8 HT_ HW_ hHeld 15 80 ?_; refine tz8 HT_ HW_ hHeld 17 82 ?_
         refine oz HT_ 11 (some 76) (fun K hK => ?_)
         refine gz Try.func167 #[.agg #[.int .i64 a1_0, .int .i64 a1_1], .agg #[.int .i64 a1_2, .int .i64 a1_3], .agg #[.int .i64 a0_0, .int .i64 a0_1]] ?_
         with_reducible refine (impl_SideOf.calls a1_0 a1_1 a1_2 a1_3 a0_0 a0_1 t260 _ A117.out).mono ?_
         rintro e w120 ⟨rfl, hb⟩
         refine ⟨_, rfl, ?_⟩
         replace BK241 := Aside0.mk (blk_below (g := gb241) (o := .cells #[.int .i64 a0_0, .int .i64 a0_1, .int .i64 a0_2, .int .i64 a0_3] 85 (0, 0)) (kz BK241) hb)
         replace BK242 := Aside0.mk (blk_below (g := gb242) (o := .cells #[.int .i64 a1_0, .int .i64 a1_1, .int .i64 a1_2, .int .i64 a1_3] 85 (0, 0)) (kz BK242) hb)
         replace HB := Aside0.mk (below_step bzs hb)
         (try clear hb)
         (try clear hb2)
         (try clear hk)
         (try clear hi)
         refine hK.out _ _ ⟨(blk_cell BK242.out 0).trans rfl, (blk_cell BK242.out 1).trans rfl, (blk_cell BK242.out 2).trans rfl, (blk_cell BK242.out 3).trans rfl, (blk_cell BK241.out 0).trans rfl, (blk_cell BK241.out 1).trans rfl, (blk_cell BK241.out 2).trans rfl, (blk_cell BK241.out 3).trans rfl⟩ (fun hHeld => ?_)
         clear hK K
         refine nz 76 ?_
         refine oz HT_ 18 (some 83) (fun K hK => ?_)
         refine gz Try.func167 #[.agg #[.int .i64 a1_0, .int .i64 a1_1], .agg #[.int .i64 a1_2, .int .i64 a1_3], .agg #[.int .i64 a0_2, .int .i64 a0_3]] ?_
         with_reducible refine (impl_SideOf.calls a1_0 a1_1 a1_2 a1_3 a0_2 a0_3 t261 _ A118.out).mono ?_
         rintro e w121 ⟨rfl, hb⟩
         refine ⟨_, rfl, ?_⟩
         replace BK241 := Aside0.mk (blk_below (g := gb241) (o := .cells #[.int .i64 a0_0, .int .i64 a0_1, .int .i64 a0_2, .int .i64 a0_3] 85 (0, 0)) (kz BK241) hb)
         replace BK242 := Aside0.mk (blk_below (g := gb242) (o := .cells #[.int .i64 a1_0, .int .i64 a1_1, .int .i64 a1_2, .int .i64 a1_3] 85 (0, 0)) (kz BK242) hb)
         replace HB := Aside0.mk (below_step bzs hb)
         (try clear hb)
         (try clear hb2)
         (try clear hk)
         (try clear hi)
         refine hK.out _ _ ⟨(blk_cell BK242.out 0).trans rfl, (blk_cell BK242.out 1).trans rfl, (blk_cell BK242.out 2).trans rfl, (blk_cell BK242.out 3).trans rfl, (blk_cell BK241.out 0).trans rfl, (blk_cell BK241.out 1).trans rfl, (blk_cell BK241.out 2).trans rfl, (blk_cell BK241.out 3).trans rfl⟩ (fun hHeld => ?_)
         clear hK K
         refine nz 83 ?_; refine pz HT_ 19 84 ?_; refine pz HT_ 20 85 ?_; refine pz HT_ 21 86 ?_; refine dz HT_ ?_
         try go_wp2
         go_meet
         case rel => exact ⟨_, (decide ((wrap64 (t260 * t261)) < 0)), rz, H', ⟨by have := HJ2.out; have := HJ19.out; first | omega | exact Nat.le_refl _⟩, ⟨kz BK241⟩, ⟨kz BK242⟩, ⟨bzs⟩⟩
        ·rw [if_neg c116] at H
         have c116b0 : decide ((wrap64 (t245 * t246)) < 0) = false := decide_eq_false c116
         clear c116
         (first | rw [c116b0] | (simp only [i64_w, i32_w]; rw [c116b0]) | skip)
         have H' := Aside0.mk H
         clear H
         try go_wp2
         replace BK241 := Aside0.mk (blk_drew BK241.out)
         replace BK242 := Aside0.mk (blk_drew BK242.out)
         replace HB := Aside0.mk (below_drew1 HB.out)
         refine start_ (n := 22) (S := fun w' => True) (ds := []) #[F,F,F,F,F,F,F,F,F,F,F,F,F,F,F,F,F,F,F,F,F,F] (by kernel_rfl) rfl rfl trivial (fun hHeld => ?_); refine with_tabW impl_HowMeet.tab16 impl_HowMeet.bits16 (fun HT_ HW_ => ?_)
         generalize wc.drew = w122 at BK241 BK242 HB hHeld ⊢
         refine pz HT_ 0 65 ?_; refine pz HT_ 1 66 ?_; refine pz HT_ 2 67 ?_; refine pz HT_ 3 68 ?_; refine pz HT_ 4 69 ?_
         refine pure_ (i := 5) (N := some 70) (v := undef) (a' := ?_) #[T,T,T,T,T,T,F,F,F,F,F,F,F,F,F,F,F,F,F,F,F,F] rfl rfl (any_of HT_.out (by kernel_rfl)) (fun _ _ _ h => h) (Or.inr ⟨by rfl, rfl⟩) ?_ ?_
         rotate_left
         ·simp only [Act.put, List.setIfInBounds_toArray, List.set_cons_zero, List.set_cons_succ, i64_w, i32_w]
          rfl
         refine pure_ (i := 6) (N := some 71) (v := undef) (a' := ?_) #[T,T,T,T,T,T,T,F,F,F,F,F,F,F,F,F,F,F,F,F,F,F] rfl rfl (any_of HT_.out (by kernel_rfl)) (fun _ _ _ h => h) (Or.inr ⟨by rfl, rfl⟩) ?_ ?_
         rotate_left
         ·simp only [Act.put, List.setIfInBounds_toArray, List.set_cons_zero, List.set_cons_succ, i64_w, i32_w]
          rfl
         refine pure_ (i := 7) (N := some 72) (v := undef) (a' := ?_) #[T,T,T,T,T,T,T,T,F,F,F,F,F,F,F,F,F,F,F,F,F,F] rfl rfl (any_of HT_.out (by kernel_rfl)) (fun _ _ _ h => h) (Or.inr ⟨by rfl, rfl⟩) ?_ ?_
         rotate_left
         ·simp only [Act.put, List.setIfInBounds_toArray, List.set_cons_zero, List.set_cons_succ, i64_w, i32_w]
          rfl
         refine pure_ (i := 8) (N := some 73) (v := undef) (a' := ?_) #[T,T,T,T,T,T,T,T,T,F,F,F,F,F,F,F,F,F,F,F,F,F] rfl rfl (any_of HT_.out (by kernel_rfl)) (fun _ _ _ h => h) (Or.inr ⟨by rfl, rfl⟩) ?_ ?_
         rotate_left
         ·simp only [Act.put, List.setIfInBounds_toArray, List.set_cons_zero, List.set_cons_succ, i64_w, i32_w]
          rfl
         refine pure_ (i := 9) (N := some 74) (v := undef) (a' := ?_) #[T,T,T,T,T,T,T,T,T,T,F,F,F,F,F,F,F,F,F,F,F,F] rfl rfl (any_of HT_.out (by kernel_rfl)) (fun _ _ _ h => h) (Or.inr ⟨by rfl, rfl⟩) ?_ ?_
         rotate_left
         ·simp only [Act.put, List.setIfInBounds_toArray, List.set_cons_zero, List.set_cons_succ, i64_w, i32_w]
          rfl
         refine pure_ (i := 10) (N := some 75) (v := undef) (a' := ?_) #[T,T,T,T,T,T,T,T,T,T,T,F,F,F,F,F,F,F,F,F,F,F] rfl rfl (any_of HT_.out (by kernel_rfl)) (fun _ _ _ h => h) (Or.inr ⟨by rfl, rfl⟩) ?_ ?_
         rotate_left
         ·simp only [Act.put, List.setIfInBounds_toArray, List.set_cons_zero, List.set_cons_succ, i64_w, i32_w]
          rfl
         refine pure_ (i := 11) (N := some 76) (v := undef) (a' := ?_) #[T,T,T,T,T,T,T,T,T,T,T,T,F,F,F,F,F,F,F,F,F,F] rfl rfl (any_of HT_.out (by kernel_rfl)) (fun _ _ _ h => h) (Or.inr ⟨by rfl, rfl⟩) ?_ ?_
         rotate_left
         ·simp only [Act.put, List.setIfInBounds_toArray, List.set_cons_zero, List.set_cons_succ, i64_w, i32_w]
          rfl
         refine pure_ (i := 12) (N := some 77) (v := undef) (a' := ?_) #[T,T,T,T,T,T,T,T,T,T,T,T,T,F,F,F,F,F,F,F,F,F] rfl rfl (any_of HT_.out (by kernel_rfl)) (fun _ _ _ h => h) (Or.inr ⟨by rfl, rfl⟩) ?_ ?_
         rotate_left
         ·simp only [Act.put, List.setIfInBounds_toArray, List.set_cons_zero, List.set_cons_succ, i64_w, i32_w]
          rfl
         refine pure_ (i := 13) (N := some 78) (v := undef) (a' := ?_) #[T,T,T,T,T,T,T,T,T,T,T,T,T,T,F,F,F,F,F,F,F,F] rfl rfl (any_of HT_.out (by kernel_rfl)) (fun _ _ _ h => h) (Or.inr ⟨by rfl, rfl⟩) ?_ ?_
         rotate_left
         ·simp only [Act.put, List.setIfInBounds_toArray, List.set_cons_zero, List.set_cons_succ, i64_w, i32_w]
          rfl
         refine pure_ (i := 14) (N := some 79) (v := undef) (a' := ?_) #[T,T,T,T,T,T,T,T,T,T,T,T,T,T,T,F,F,F,F,F,F,F] rfl rfl (any_of HT_.out (by kernel_rfl)) (fun _ _ _ h => h) (Or.inr ⟨by rfl, rfl⟩) ?_ ?_
         rotate_left
         ·simp only [Act.put, List.setIfInBounds_toArray, List.set_cons_zero, List.set_cons_succ, i64_w, i32_w]
          rfl
         refine pure_ (i := 15) (N := some 80) (v := undef) (a' := ?_) #[T,T,T,T,T,T,T,T,T,T,T,T,T,T,T,T,F,F,F,F,F,F] rfl rfl (any_of HT_.out (by kernel_rfl)) (fun _ _ _ h => h) (Or.inr ⟨by rfl, rfl⟩) ?_ ?_
         rotate_left
         ·simp only [Act.put, List.setIfInBounds_toArray, List.set_cons_zero, List.set_cons_succ, i64_w, i32_w]
          rfl
         refine pure_ (i := 16) (N := some 81) (v := undef) (a' := ?_) #[T,T,T,T,T,T,T,T,T,T,T,T,T,T,T,T,T,F,F,F,F,F] rfl rfl (any_of HT_.out (by kernel_rfl)) (fun _ _ _ h => h) (Or.inr ⟨by rfl, rfl⟩) ?_ ?_
         rotate_left
         ·simp only [Act.put, List.setIfInBounds_toArray, List.set_cons_zero, List.set_cons_succ, i64_w, i32_w]
          rfl
         refine pure_ (i := 17) (N := some 82) (v := undef) (a' := ?_) #[T,T,T,T,T,T,T,T,T,T,T,T,T,T,T,T,T,T,F,F,F,F] rfl rfl (any_of HT_.out (by kernel_rfl)) (fun _ _ _ h => h) (Or.inr ⟨by rfl, rfl⟩) ?_ ?_
         rotate_left
         ·simp only [Act.put, List.setIfInBounds_toArray, List.set_cons_zero, List.set_cons_succ, i64_w, i32_w]
          rfl
         refine pure_ (i := 18) (N := some 83) (v := undef) (a' := ?_) #[T,T,T,T,T,T,T,T,T,T,T,T,T,T,T,T,T,T,T,F,F,F] rfl rfl (any_of HT_.out (by kernel_rfl)) (fun _ _ _ h => h) (Or.inr ⟨by rfl, rfl⟩) ?_ ?_
         rotate_left
         ·simp only [Act.put, List.setIfInBounds_toArray, List.set_cons_zero, List.set_cons_succ, i64_w, i32_w]
          rfl
         refine pure_ (i := 19) (N := some 84) (v := undef) (a' := ?_) #[T,T,T,T,T,T,T,T,T,T,T,T,T,T,T,T,T,T,T,T,F,F] rfl rfl (any_of HT_.out (by kernel_rfl)) (fun _ _ _ h => h) (Or.inr ⟨by rfl, rfl⟩) ?_ ?_
         rotate_left
         ·simp only [Act.put, List.setIfInBounds_toArray, List.set_cons_zero, List.set_cons_succ, i64_w, i32_w]
          rfl
         refine pure_ (i := 20) (N := some 85) (v := undef) (a' := ?_) #[T,T,T,T,T,T,T,T,T,T,T,T,T,T,T,T,T,T,T,T,T,F] rfl rfl (any_of HT_.out (by kernel_rfl)) (fun _ _ _ h => h) (Or.inr ⟨by rfl, rfl⟩) ?_ ?_
         rotate_left
         ·simp only [Act.put, List.setIfInBounds_toArray, List.set_cons_zero, List.set_cons_succ, i64_w, i32_w]
          rfl
         refine pz HT_ 21 86 ?_; refine dz HT_ ?_
         try go_wp2
         go_meet
         case rel => exact ⟨_, (false), rz, H', ⟨by have := HJ2.out; have := HJ19.out; first | omega | exact Nat.le_refl _⟩, ⟨kz BK241⟩, ⟨kz BK242⟩, ⟨bzs⟩⟩
       case rest =>
        clear HC115
        try clear c1
        try clear c2
        try clear p2
        try clear c5
        try clear c6
        try clear p6
        try clear c7
        try clear c8
        try clear c9
        try clear c10
        try clear c11
        try clear c15
        try clear c16
        try clear c17
        try clear c24
        try clear c24b0
        try clear c24b1
        try clear c25
        try clear c50
        try clear c51
        try clear c52
        try clear c54
        try clear c55
        try clear c58
        try clear c59
        try clear c60
        try clear c61
        try clear c63
        try clear c64
        try clear p64
        try clear c68
        try clear c69
        try clear c70
        try clear c72
        try clear c73
        try clear c76
        try clear c77
        try clear c78
        try clear c79
        try clear c81
        try clear c82
        try clear c85
        try clear c86
        try clear c87
        try clear c88
        try clear c90
        try clear c91
        try clear c94
        try clear c94b0
        try clear c94b1
        try clear c94b2
        try clear c95
        try clear c96
        try clear c97
        try clear c99
        try clear c100
        try clear c105
        try clear c106
        try clear c107
        try clear c109
        try clear c110
        try clear c116
        try clear c116b0
        try clear hcz101_0
        try clear hcz101_1
        try clear hcz103_0
        try clear hcz103_1
        try clear hcz104_0
        try clear hcz104_1
        try clear hcz108_0
        try clear hcz108_1
        try clear hcz10_0
        try clear hcz10_1
        try clear hcz10_2
        try clear hcz10_3
        try clear hcz111_0
        try clear hcz111_1
        try clear hcz113_0
        try clear hcz113_1
        try clear hcz114_0
        try clear hcz114_1
        try clear hcz12_0
        try clear hcz12_1
        try clear hcz12_2
        try clear hcz12_3
        try clear hcz15_0
        try clear hcz15_1
        try clear hcz15_2
        try clear hcz15_3
        try clear hcz53_0
        try clear hcz53_1
        try clear hcz56_0
        try clear hcz56_1
        try clear hcz56_2
        try clear hcz56_3
        try clear hcz62_0
        try clear hcz62_1
        try clear hcz62_2
        try clear hcz62_3
        try clear hcz65_0
        try clear hcz65_1
        try clear hcz71_0
        try clear hcz71_1
        try clear hcz71_2
        try clear hcz71_3
        try clear hcz74_0
        try clear hcz74_1
        try clear hcz80_0
        try clear hcz80_1
        try clear hcz80_2
        try clear hcz80_3
        try clear hcz83_0
        try clear hcz83_1
        try clear hcz89_0
        try clear hcz89_1
        try clear hcz92_0
        try clear hcz92_1
        try clear hcz98_0
        try clear hcz98_1
        try clear hfz101_0
        try clear hfz101_1
        try clear hfz103_0
        try clear hfz103_1
        try clear hfz104_0
        try clear hfz104_1
        try clear hfz108_0
        try clear hfz108_1
        try clear hfz10_0
        try clear hfz10_1
        try clear hfz10_2
        try clear hfz10_3
        try clear hfz111_0
        try clear hfz111_1
        try clear hfz113_0
        try clear hfz113_1
        try clear hfz114_0
        try clear hfz114_1
        try clear hfz12_0
        try clear hfz12_1
        try clear hfz12_2
        try clear hfz12_3
        try clear hfz15_0
        try clear hfz15_1
        try clear hfz15_2
        try clear hfz15_3
        try clear hfz53_0
        try clear hfz53_1
        try clear hfz56_0
        try clear hfz56_1
        try clear hfz56_2
        try clear hfz56_3
        try clear hfz62_0
        try clear hfz62_1
        try clear hfz62_2
        try clear hfz62_3
        try clear hfz65_0
        try clear hfz65_1
        try clear hfz71_0
        try clear hfz71_1
        try clear hfz71_2
        try clear hfz71_3
        try clear hfz74_0
        try clear hfz74_1
        try clear hfz80_0
        try clear hfz80_1
        try clear hfz80_2
        try clear hfz80_3
        try clear hfz83_0
        try clear hfz83_1
        try clear hfz89_0
        try clear hfz89_1
        try clear hfz92_0
        try clear hfz92_1
        try clear hfz98_0
        try clear hfz98_1
        try clear p2
        obtain ⟨kq, x86_114, rfl, HA, HJ114, BK241, BK242, HB⟩ := hcut
        cases kq with
        | zero => exact absurd HA.out (by simp [impl_HowMeet.j4])
        | succ kj114 =>
         have H := HA.out
         clear HA
         simp only [impl_HowMeet.j4] at H
         by_cases c123 : x86_114 = true
         ·subst c123
          have H1 : (some 2) = some r := by rw [if_pos rfl] at H; exact H
          clear H
          have H := H1
          clear H1
          obtain rfl := Option.some.inj H
          go_wp2
          go_ret
          exact ⟨ez, bzs⟩
         ·replace c123 := Bool.eq_false_iff.mpr c123
          subst c123
          have H1 : ((impl_IsOn.f a0_0 a0_1 a0_2 a0_3 a1_0 a1_1).bind fun t262 => (if t262 = true then (some 1) else ((impl_IsOn.f a0_0 a0_1 a0_2 a0_3 a1_2 a1_3).bind fun t263 => (if t263 = true then (some 1) else ((impl_IsOn.f a1_0 a1_1 a1_2 a1_3 a0_0 a0_1).bind fun t264 => (if t264 = true then (some 1) else ((impl_IsOn.f a1_0 a1_1 a1_2 a1_3 a0_2 a0_3).bind fun t265 => (if t265 = true then (some 1) else (some 0))))))))) = some r := by rw [if_neg (show ¬ (false = true) by decide)] at H; exact H
          clear H
          have H := H1
          clear H1
          replace H := Option.bind_eq_some_iff.mp H
          obtain ⟨t262, A1240, H⟩ := H
          replace H : (if t262 = true then (some 1) else ((impl_IsOn.f a0_0 a0_1 a0_2 a0_3 a1_2 a1_3).bind fun t263 => (if t263 = true then (some 1) else ((impl_IsOn.f a1_0 a1_1 a1_2 a1_3 a0_0 a0_1).bind fun t264 => (if t264 = true then (some 1) else ((impl_IsOn.f a1_0 a1_1 a1_2 a1_3 a0_2 a0_3).bind fun t265 => (if t265 = true then (some 1) else (some 0)))))))) = some r := H
          have A124 := Aside0.mk A1240
          clear A1240
          by_cases c125 : t262 = true
          ·subst c125
           have H1 : (some 1) = some r := by rw [if_pos rfl] at H; exact H
           clear H
           have H := H1
           clear H1
           obtain rfl := Option.some.inj H
           have hnb126 := NB241_242.out
           have hnc126 := NB242_241.out
           have hcz127_0 : wc.cell? ⟨gb241, 0, none⟩ = some (.int .i64 a0_0) := (blk_cell BK241.out 0).trans rfl
           have hcz127_1 : wc.cell? ⟨gb241, 1, none⟩ = some (.int .i64 a0_1) := (blk_cell BK241.out 1).trans rfl
           have hcz127_2 : wc.cell? ⟨gb241, 2, none⟩ = some (.int .i64 a0_2) := (blk_cell BK241.out 2).trans rfl
           have hcz127_3 : wc.cell? ⟨gb241, 3, none⟩ = some (.int .i64 a0_3) := (blk_cell BK241.out 3).trans rfl
           have hfz127_0 := blk_frozen BK241.out 0
           have hfz127_1 := blk_frozen BK241.out 1
           have hfz127_2 := blk_frozen BK241.out 2
           have hfz127_3 := blk_frozen BK241.out 3
           have hcz128_0 : wc.cell? ⟨gb242, 0, none⟩ = some (.int .i64 a1_0) := (blk_cell BK242.out 0).trans rfl
           have hcz128_1 : wc.cell? ⟨gb242, 1, none⟩ = some (.int .i64 a1_1) := (blk_cell BK242.out 1).trans rfl
           have hcz128_2 : wc.cell? ⟨gb242, 2, none⟩ = some (.int .i64 a1_2) := (blk_cell BK242.out 2).trans rfl
           have hcz128_3 : wc.cell? ⟨gb242, 3, none⟩ = some (.int .i64 a1_3) := (blk_cell BK242.out 3).trans rfl
           have hfz128_0 := blk_frozen BK242.out 0
           have hfz128_1 := blk_frozen BK242.out 1
           have hfz128_2 := blk_frozen BK242.out 2
           have hfz128_3 := blk_frozen BK242.out 3
           go_wp2_with (first | ((with_reducible refine gate_callee (f := 171) rfl ?_); refine gl (some 90) Try.func171 #[.agg #[.int .i64 a0_0, .int .i64 a0_1, .int .i64 a0_2, .int .i64 a0_3], .agg #[.int .i64 a1_0, .int .i64 a1_1]] ?_; (with_reducible refine (impl_IsOn.calls a0_0 a0_1 a0_2 a0_3 a1_0 a1_1 true _ A124.out).mono ?_); rintro e w129 ⟨rfl, hb⟩; refine ⟨_, rfl, ?_⟩; replace BK241 := Aside0.mk (blk_below (g := gb241) (o := .cells #[.int .i64 a0_0, .int .i64 a0_1, .int .i64 a0_2, .int .i64 a0_3] 85 (0, 0)) (kz BK241) hb); replace BK242 := Aside0.mk (blk_below (g := gb242) (o := .cells #[.int .i64 a1_0, .int .i64 a1_1, .int .i64 a1_2, .int .i64 a1_3] 85 (0, 0)) (kz BK242) hb); replace HB := Aside0.mk (below_step bzs hb); (try clear hb)))
           go_ret
           exact ⟨ez, bzs⟩
          ·replace c125 := Bool.eq_false_iff.mpr c125
           subst c125
           have H1 : ((impl_IsOn.f a0_0 a0_1 a0_2 a0_3 a1_2 a1_3).bind fun t263 => (if t263 = true then (some 1) else ((impl_IsOn.f a1_0 a1_1 a1_2 a1_3 a0_0 a0_1).bind fun t264 => (if t264 = true then (some 1) else ((impl_IsOn.f a1_0 a1_1 a1_2 a1_3 a0_2 a0_3).bind fun t265 => (if t265 = true then (some 1) else (some 0))))))) = some r := by rw [if_neg (show ¬ (false = true) by decide)] at H; exact H
           clear H
           have H := H1
           clear H1
           replace H := Option.bind_eq_some_iff.mp H
           obtain ⟨t263, A1300, H⟩ := H
           replace H : (if t263 = true then (some 1) else ((impl_IsOn.f a1_0 a1_1 a1_2 a1_3 a0_0 a0_1).bind fun t264 => (if t264 = true then (some 1) else ((impl_IsOn.f a1_0 a1_1 a1_2 a1_3 a0_2 a0_3).bind fun t265 => (if t265 = true then (some 1) else (some 0)))))) = some r := H
           have A130 := Aside0.mk A1300
           clear A1300
           by_cases c131 : t263 = true
           ·subst c131
            have H1 : (some 1) = some r := by rw [if_pos rfl] at H; exact H
            clear H
            have H := H1
            clear H1
            obtain rfl := Option.some.inj H
            have hnb132 := NB241_242.out
            have hnc132 := NB242_241.out
            have hcz133_0 : wc.cell? ⟨gb241, 0, none⟩ = some (.int .i64 a0_0) := (blk_cell BK241.out 0).trans rfl
            have hcz133_1 : wc.cell? ⟨gb241, 1, none⟩ = some (.int .i64 a0_1) := (blk_cell BK241.out 1).trans rfl
            have hcz133_2 : wc.cell? ⟨gb241, 2, none⟩ = some (.int .i64 a0_2) := (blk_cell BK241.out 2).trans rfl
            have hcz133_3 : wc.cell? ⟨gb241, 3, none⟩ = some (.int .i64 a0_3) := (blk_cell BK241.out 3).trans rfl
            have hfz133_0 := blk_frozen BK241.out 0
            have hfz133_1 := blk_frozen BK241.out 1
            have hfz133_2 := blk_frozen BK241.out 2
            have hfz133_3 := blk_frozen BK241.out 3
            have hcz134_0 : wc.cell? ⟨gb242, 0, none⟩ = some (.int .i64 a1_0) := (blk_cell BK242.out 0).trans rfl
            have hcz134_1 : wc.cell? ⟨gb242, 1, none⟩ = some (.int .i64 a1_1) := (blk_cell BK242.out 1).trans rfl
            have hcz134_2 : wc.cell? ⟨gb242, 2, none⟩ = some (.int .i64 a1_2) := (blk_cell BK242.out 2).trans rfl
            have hcz134_3 : wc.cell? ⟨gb242, 3, none⟩ = some (.int .i64 a1_3) := (blk_cell BK242.out 3).trans rfl
            have hfz134_0 := blk_frozen BK242.out 0
            have hfz134_1 := blk_frozen BK242.out 1
            have hfz134_2 := blk_frozen BK242.out 2
            have hfz134_3 := blk_frozen BK242.out 3
            go_wp2_with (first | ((with_reducible refine gate_callee (f := 171) rfl ?_); refine gl (some 90) Try.func171 #[.agg #[.int .i64 a0_0, .int .i64 a0_1, .int .i64 a0_2, .int .i64 a0_3], .agg #[.int .i64 a1_0, .int .i64 a1_1]] ?_; (with_reducible refine (impl_IsOn.calls a0_0 a0_1 a0_2 a0_3 a1_0 a1_1 false _ A124.out).mono ?_); rintro e w135 ⟨rfl, hb⟩; refine ⟨_, rfl, ?_⟩; replace BK241 := Aside0.mk (blk_below (g := gb241) (o := .cells #[.int .i64 a0_0, .int .i64 a0_1, .int .i64 a0_2, .int .i64 a0_3] 85 (0, 0)) (kz BK241) hb); replace BK242 := Aside0.mk (blk_below (g := gb242) (o := .cells #[.int .i64 a1_0, .int .i64 a1_1, .int .i64 a1_2, .int .i64 a1_3] 85 (0, 0)) (kz BK242) hb); replace HB := Aside0.mk (below_step bzs hb); (try clear hb); have hcz136_0 : w135.cell? ⟨gb241, 0, none⟩ = some (.int .i64 a0_0) := (blk_cell BK241.out 0).trans rfl; have hcz136_1 : w135.cell? ⟨gb241, 1, none⟩ = some (.int .i64 a0_1) := (blk_cell BK241.out 1).trans rfl; have hcz136_2 : w135.cell? ⟨gb241, 2, none⟩ = some (.int .i64 a0_2) := (blk_cell BK241.out 2).trans rfl; have hcz136_3 : w135.cell? ⟨gb241, 3, none⟩ = some (.int .i64 a0_3) := (blk_cell BK241.out 3).trans rfl; have hfz136_0 := blk_frozen BK241.out 0; have hfz136_1 := blk_frozen BK241.out 1; have hfz136_2 := blk_frozen BK241.out 2; have hfz136_3 := blk_frozen BK241.out 3; have hcz137_0 : w135.cell? ⟨gb242, 0, none⟩ = some (.int .i64 a1_0) := (blk_cell BK242.out 0).trans rfl; have hcz137_1 : w135.cell? ⟨gb242, 1, none⟩ = some (.int .i64 a1_1) := (blk_cell BK242.out 1).trans rfl; have hcz137_2 : w135.cell? ⟨gb242, 2, none⟩ = some (.int .i64 a1_2) := (blk_cell BK242.out 2).trans rfl; have hcz137_3 : w135.cell? ⟨gb242, 3, none⟩ = some (.int .i64 a1_3) := (blk_cell BK242.out 3).trans rfl; have hfz137_0 := blk_frozen BK242.out 0; have hfz137_1 := blk_frozen BK242.out 1; have hfz137_2 := blk_frozen BK242.out 2; have hfz137_3 := blk_frozen BK242.out 3) | (go_at_call 171; (with_reducible refine (impl_IsOn.calls a0_0 a0_1 a0_2 a0_3 a1_2 a1_3 true _ A130.out).mono ?_); rintro e w138 ⟨rfl, hb⟩; replace BK241 := Aside0.mk (blk_below (g := gb241) (o := .cells #[.int .i64 a0_0, .int .i64 a0_1, .int .i64 a0_2, .int .i64 a0_3] 85 (0, 0)) (kz BK241) hb); replace BK242 := Aside0.mk (blk_below (g := gb242) (o := .cells #[.int .i64 a1_0, .int .i64 a1_1, .int .i64 a1_2, .int .i64 a1_3] 85 (0, 0)) (kz BK242) hb); replace HB := Aside0.mk (below_step bzs hb); (try clear hb)))
            go_ret
            exact ⟨ez, bzs⟩
           ·replace c131 := Bool.eq_false_iff.mpr c131
            subst c131
            have H1 : ((impl_IsOn.f a1_0 a1_1 a1_2 a1_3 a0_0 a0_1).bind fun t264 => (if t264 = true then (some 1) else ((impl_IsOn.f a1_0 a1_1 a1_2 a1_3 a0_2 a0_3).bind fun t265 => (if t265 = true then (some 1) else (some 0))))) = some r := by rw [if_neg (show ¬ (false = true) by decide)] at H; exact H
            clear H
            have H := H1
            clear H1
            replace H := Option.bind_eq_some_iff.mp H
            obtain ⟨t264, A1390, H⟩ := H
            replace H : (if t264 = true then (some 1) else ((impl_IsOn.f a1_0 a1_1 a1_2 a1_3 a0_2 a0_3).bind fun t265 => (if t265 = true then (some 1) else (some 0)))) = some r := H
            have A139 := Aside0.mk A1390
            clear A1390
            by_cases c140 : t264 = true
            ·subst c140
             have H1 : (some 1) = some r := by rw [if_pos rfl] at H; exact H
             clear H
             have H := H1
             clear H1
             obtain rfl := Option.some.inj H
             have hnb141 := NB241_242.out
             have hnc141 := NB242_241.out
             have hcz142_0 : wc.cell? ⟨gb241, 0, none⟩ = some (.int .i64 a0_0) := (blk_cell BK241.out 0).trans rfl
             have hcz142_1 : wc.cell? ⟨gb241, 1, none⟩ = some (.int .i64 a0_1) := (blk_cell BK241.out 1).trans rfl
             have hcz142_2 : wc.cell? ⟨gb241, 2, none⟩ = some (.int .i64 a0_2) := (blk_cell BK241.out 2).trans rfl
             have hcz142_3 : wc.cell? ⟨gb241, 3, none⟩ = some (.int .i64 a0_3) := (blk_cell BK241.out 3).trans rfl
             have hfz142_0 := blk_frozen BK241.out 0
             have hfz142_1 := blk_frozen BK241.out 1
             have hfz142_2 := blk_frozen BK241.out 2
             have hfz142_3 := blk_frozen BK241.out 3
             have hcz143_0 : wc.cell? ⟨gb242, 0, none⟩ = some (.int .i64 a1_0) := (blk_cell BK242.out 0).trans rfl
             have hcz143_1 : wc.cell? ⟨gb242, 1, none⟩ = some (.int .i64 a1_1) := (blk_cell BK242.out 1).trans rfl
             have hcz143_2 : wc.cell? ⟨gb242, 2, none⟩ = some (.int .i64 a1_2) := (blk_cell BK242.out 2).trans rfl
             have hcz143_3 : wc.cell? ⟨gb242, 3, none⟩ = some (.int .i64 a1_3) := (blk_cell BK242.out 3).trans rfl
             have hfz143_0 := blk_frozen BK242.out 0
             have hfz143_1 := blk_frozen BK242.out 1
             have hfz143_2 := blk_frozen BK242.out 2
             have hfz143_3 := blk_frozen BK242.out 3
             go_wp2_with (first | ((with_reducible refine gate_callee (f := 171) rfl ?_); refine gl (some 90) Try.func171 #[.agg #[.int .i64 a0_0, .int .i64 a0_1, .int .i64 a0_2, .int .i64 a0_3], .agg #[.int .i64 a1_0, .int .i64 a1_1]] ?_; (with_reducible refine (impl_IsOn.calls a0_0 a0_1 a0_2 a0_3 a1_0 a1_1 false _ A124.out).mono ?_); rintro e w144 ⟨rfl, hb⟩; refine ⟨_, rfl, ?_⟩; replace BK241 := Aside0.mk (blk_below (g := gb241) (o := .cells #[.int .i64 a0_0, .int .i64 a0_1, .int .i64 a0_2, .int .i64 a0_3] 85 (0, 0)) (kz BK241) hb); replace BK242 := Aside0.mk (blk_below (g := gb242) (o := .cells #[.int .i64 a1_0, .int .i64 a1_1, .int .i64 a1_2, .int .i64 a1_3] 85 (0, 0)) (kz BK242) hb); replace HB := Aside0.mk (below_step bzs hb); (try clear hb); have hcz145_0 : w144.cell? ⟨gb241, 0, none⟩ = some (.int .i64 a0_0) := (blk_cell BK241.out 0).trans rfl; have hcz145_1 : w144.cell? ⟨gb241, 1, none⟩ = some (.int .i64 a0_1) := (blk_cell BK241.out 1).trans rfl; have hcz145_2 : w144.cell? ⟨gb241, 2, none⟩ = some (.int .i64 a0_2) := (blk_cell BK241.out 2).trans rfl; have hcz145_3 : w144.cell? ⟨gb241, 3, none⟩ = some (.int .i64 a0_3) := (blk_cell BK241.out 3).trans rfl; have hfz145_0 := blk_frozen BK241.out 0; have hfz145_1 := blk_frozen BK241.out 1; have hfz145_2 := blk_frozen BK241.out 2; have hfz145_3 := blk_frozen BK241.out 3; have hcz146_0 : w144.cell? ⟨gb242, 0, none⟩ = some (.int .i64 a1_0) := (blk_cell BK242.out 0).trans rfl; have hcz146_1 : w144.cell? ⟨gb242, 1, none⟩ = some (.int .i64 a1_1) := (blk_cell BK242.out 1).trans rfl; have hcz146_2 : w144.cell? ⟨gb242, 2, none⟩ = some (.int .i64 a1_2) := (blk_cell BK242.out 2).trans rfl; have hcz146_3 : w144.cell? ⟨gb242, 3, none⟩ = some (.int .i64 a1_3) := (blk_cell BK242.out 3).trans rfl; have hfz146_0 := blk_frozen BK242.out 0; have hfz146_1 := blk_frozen BK242.out 1; have hfz146_2 := blk_frozen BK242.out 2; have hfz146_3 := blk_frozen BK242.out 3) | (go_at_call 171; (with_reducible refine (impl_IsOn.calls a0_0 a0_1 a0_2 a0_3 a1_2 a1_3 false _ A130.out).mono ?_); rintro e w147 ⟨rfl, hb⟩; replace BK241 := Aside0.mk (blk_below (g := gb241) (o := .cells #[.int .i64 a0_0, .int .i64 a0_1, .int .i64 a0_2, .int .i64 a0_3] 85 (0, 0)) (kz BK241) hb); replace BK242 := Aside0.mk (blk_below (g := gb242) (o := .cells #[.int .i64 a1_0, .int .i64 a1_1, .int .i64 a1_2, .int .i64 a1_3] 85 (0, 0)) (kz BK242) hb); replace HB := Aside0.mk (below_step bzs hb); (try clear hb); have hcz148_0 : w147.cell? ⟨gb242, 0, none⟩ = some (.int .i64 a1_0) := (blk_cell BK242.out 0).trans rfl; have hcz148_1 : w147.cell? ⟨gb242, 1, none⟩ = some (.int .i64 a1_1) := (blk_cell BK242.out 1).trans rfl; have hcz148_2 : w147.cell? ⟨gb242, 2, none⟩ = some (.int .i64 a1_2) := (blk_cell BK242.out 2).trans rfl; have hcz148_3 : w147.cell? ⟨gb242, 3, none⟩ = some (.int .i64 a1_3) := (blk_cell BK242.out 3).trans rfl; have hfz148_0 := blk_frozen BK242.out 0; have hfz148_1 := blk_frozen BK242.out 1; have hfz148_2 := blk_frozen BK242.out 2; have hfz148_3 := blk_frozen BK242.out 3; have hcz149_0 : w147.cell? ⟨gb241, 0, none⟩ = some (.int .i64 a0_0) := (blk_cell BK241.out 0).trans rfl; have hcz149_1 : w147.cell? ⟨gb241, 1, none⟩ = some (.int .i64 a0_1) := (blk_cell BK241.out 1).trans rfl; have hcz149_2 : w147.cell? ⟨gb241, 2, none⟩ = some (.int .i64 a0_2) := (blk_cell BK241.out 2).trans rfl; have hcz149_3 : w147.cell? ⟨gb241, 3, none⟩ = some (.int .i64 a0_3) := (blk_cell BK241.out 3).trans rfl; have hfz149_0 := blk_frozen BK241.out 0; have hfz149_1 := blk_frozen BK241.out 1; have hfz149_2 := blk_frozen BK241.out 2; have hfz149_3 := blk_frozen BK241.out 3) | (go_at_call 171; (with_reducible refine (impl_IsOn.calls a1_0 a1_1 a1_2 a1_3 a0_0 a0_1 true _ A139.out).mono ?_); rintro e w150 ⟨rfl, hb⟩; replace BK241 := Aside0.mk (blk_below (g := gb241) (o := .cells #[.int .i64 a0_0, .int .i64 a0_1, .int .i64 a0_2, .int .i64 a0_3] 85 (0, 0)) (kz BK241) hb); replace BK242 := Aside0.mk (blk_below (g := gb242) (o := .cells #[.int .i64 a1_0, .int .i64 a1_1, .int .i64 a1_2, .int .i64 a1_3] 85 (0, 0)) (kz BK242) hb); replace HB := Aside0.mk (below_step bzs hb); (try clear hb)))
             go_ret
             exact ⟨ez, bzs⟩
            ·replace c140 := Bool.eq_false_iff.mpr c140
             subst c140
             have H1 : ((impl_IsOn.f a1_0 a1_1 a1_2 a1_3 a0_2 a0_3).bind fun t265 => (if t265 = true then (some 1) else (some 0))) = some r := by rw [if_neg (show ¬ (false = true) by decide)] at H; exact H
             clear H
             have H := H1
             clear H1
             replace H := Option.bind_eq_some_iff.mp H
             obtain ⟨t265, A1510, H⟩ := H
             replace H : (if t265 = true then (some 1) else (some 0)) = some r := H
             have A151 := Aside0.mk A1510
             clear A1510
             by_cases c152 : t265 = true
             ·subst c152
              have H1 : (some 1) = some r := by rw [if_pos rfl] at H; exact H
              clear H
              have H := H1
              clear H1
              obtain rfl := Option.some.inj H
              have hnb153 := NB241_242.out
              have hnc153 := NB242_241.out
              have hcz154_0 : wc.cell? ⟨gb241, 0, none⟩ = some (.int .i64 a0_0) := (blk_cell BK241.out 0).trans rfl
              have hcz154_1 : wc.cell? ⟨gb241, 1, none⟩ = some (.int .i64 a0_1) := (blk_cell BK241.out 1).trans rfl
              have hcz154_2 : wc.cell? ⟨gb241, 2, none⟩ = some (.int .i64 a0_2) := (blk_cell BK241.out 2).trans rfl
              have hcz154_3 : wc.cell? ⟨gb241, 3, none⟩ = some (.int .i64 a0_3) := (blk_cell BK241.out 3).trans rfl
              have hfz154_0 := blk_frozen BK241.out 0
              have hfz154_1 := blk_frozen BK241.out 1
              have hfz154_2 := blk_frozen BK241.out 2
              have hfz154_3 := blk_frozen BK241.out 3
              have hcz155_0 : wc.cell? ⟨gb242, 0, none⟩ = some (.int .i64 a1_0) := (blk_cell BK242.out 0).trans rfl
              have hcz155_1 : wc.cell? ⟨gb242, 1, none⟩ = some (.int .i64 a1_1) := (blk_cell BK242.out 1).trans rfl
              have hcz155_2 : wc.cell? ⟨gb242, 2, none⟩ = some (.int .i64 a1_2) := (blk_cell BK242.out 2).trans rfl
              have hcz155_3 : wc.cell? ⟨gb242, 3, none⟩ = some (.int .i64 a1_3) := (blk_cell BK242.out 3).trans rfl
              have hfz155_0 := blk_frozen BK242.out 0
              have hfz155_1 := blk_frozen BK242.out 1
              have hfz155_2 := blk_frozen BK242.out 2
              have hfz155_3 := blk_frozen BK242.out 3
              go_wp2_with (first | ((with_reducible refine gate_callee (f := 171) rfl ?_); refine gl (some 90) Try.func171 #[.agg #[.int .i64 a0_0, .int .i64 a0_1, .int .i64 a0_2, .int .i64 a0_3], .agg #[.int .i64 a1_0, .int .i64 a1_1]] ?_; (with_reducible refine (impl_IsOn.calls a0_0 a0_1 a0_2 a0_3 a1_0 a1_1 false _ A124.out).mono ?_); rintro e w156 ⟨rfl, hb⟩; refine ⟨_, rfl, ?_⟩; replace BK241 := Aside0.mk (blk_below (g := gb241) (o := .cells #[.int .i64 a0_0, .int .i64 a0_1, .int .i64 a0_2, .int .i64 a0_3] 85 (0, 0)) (kz BK241) hb); replace BK242 := Aside0.mk (blk_below (g := gb242) (o := .cells #[.int .i64 a1_0, .int .i64 a1_1, .int .i64 a1_2, .int .i64 a1_3] 85 (0, 0)) (kz BK242) hb); replace HB := Aside0.mk (below_step bzs hb); (try clear hb); have hcz157_0 : w156.cell? ⟨gb241, 0, none⟩ = some (.int .i64 a0_0) := (blk_cell BK241.out 0).trans rfl; have hcz157_1 : w156.cell? ⟨gb241, 1, none⟩ = some (.int .i64 a0_1) := (blk_cell BK241.out 1).trans rfl; have hcz157_2 : w156.cell? ⟨gb241, 2, none⟩ = some (.int .i64 a0_2) := (blk_cell BK241.out 2).trans rfl; have hcz157_3 : w156.cell? ⟨gb241, 3, none⟩ = some (.int .i64 a0_3) := (blk_cell BK241.out 3).trans rfl; have hfz157_0 := blk_frozen BK241.out 0; have hfz157_1 := blk_frozen BK241.out 1; have hfz157_2 := blk_frozen BK241.out 2; have hfz157_3 := blk_frozen BK241.out 3; have hcz158_0 : w156.cell? ⟨gb242, 0, none⟩ = some (.int .i64 a1_0) := (blk_cell BK242.out 0).trans rfl; have hcz158_1 : w156.cell? ⟨gb242, 1, none⟩ = some (.int .i64 a1_1) := (blk_cell BK242.out 1).trans rfl; have hcz158_2 : w156.cell? ⟨gb242, 2, none⟩ = some (.int .i64 a1_2) := (blk_cell BK242.out 2).trans rfl; have hcz158_3 : w156.cell? ⟨gb242, 3, none⟩ = some (.int .i64 a1_3) := (blk_cell BK242.out 3).trans rfl; have hfz158_0 := blk_frozen BK242.out 0; have hfz158_1 := blk_frozen BK242.out 1; have hfz158_2 := blk_frozen BK242.out 2; have hfz158_3 := blk_frozen BK242.out 3) | (go_at_call 171; (with_reducible refine (impl_IsOn.calls a0_0 a0_1 a0_2 a0_3 a1_2 a1_3 false _ A130.out).mono ?_); rintro e w159 ⟨rfl, hb⟩; replace BK241 := Aside0.mk (blk_below (g := gb241) (o := .cells #[.int .i64 a0_0, .int .i64 a0_1, .int .i64 a0_2, .int .i64 a0_3] 85 (0, 0)) (kz BK241) hb); replace BK242 := Aside0.mk (blk_below (g := gb242) (o := .cells #[.int .i64 a1_0, .int .i64 a1_1, .int .i64 a1_2, .int .i64 a1_3] 85 (0, 0)) (kz BK242) hb); replace HB := Aside0.mk (below_step bzs hb); (try clear hb); have hcz160_0 : w159.cell? ⟨gb242, 0, none⟩ = some (.int .i64 a1_0) := (blk_cell BK242.out 0).trans rfl; have hcz160_1 : w159.cell? ⟨gb242, 1, none⟩ = some (.int .i64 a1_1) := (blk_cell BK242.out 1).trans rfl; have hcz160_2 : w159.cell? ⟨gb242, 2, none⟩ = some (.int .i64 a1_2) := (blk_cell BK242.out 2).trans rfl; have hcz160_3 : w159.cell? ⟨gb242, 3, none⟩ = some (.int .i64 a1_3) := (blk_cell BK242.out 3).trans rfl; have hfz160_0 := blk_frozen BK242.out 0; have hfz160_1 := blk_frozen BK242.out 1; have hfz160_2 := blk_frozen BK242.out 2; have hfz160_3 := blk_frozen BK242.out 3; have hcz161_0 : w159.cell? ⟨gb241, 0, none⟩ = some (.int .i64 a0_0) := (blk_cell BK241.out 0).trans rfl; have hcz161_1 : w159.cell? ⟨gb241, 1, none⟩ = some (.int .i64 a0_1) := (blk_cell BK241.out 1).trans rfl; have hcz161_2 : w159.cell? ⟨gb241, 2, none⟩ = some (.int .i64 a0_2) := (blk_cell BK241.out 2).trans rfl; have hcz161_3 : w159.cell? ⟨gb241, 3, none⟩ = some (.int .i64 a0_3) := (blk_cell BK241.out 3).trans rfl; have hfz161_0 := blk_frozen BK241.out 0; have hfz161_1 := blk_frozen BK241.out 1; have hfz161_2 := blk_frozen BK241.out 2; have hfz161_3 := blk_frozen BK241.out 3) | (go_at_call 171; (with_reducible refine (impl_IsOn.calls a1_0 a1_1 a1_2 a1_3 a0_0 a0_1 false _ A139.out).mono ?_); rintro e w162 ⟨rfl, hb⟩; replace BK241 := Aside0.mk (blk_below (g := gb241) (o := .cells #[.int .i64 a0_0, .int .i64 a0_1, .int .i64 a0_2, .int .i64 a0_3] 85 (0, 0)) (kz BK241) hb); replace BK242 := Aside0.mk (blk_below (g := gb242) (o := .cells #[.int .i64 a1_0, .int .i64 a1_1, .int .i64 a1_2, .int .i64 a1_3] 85 (0, 0)) (kz BK242) hb); replace HB := Aside0.mk (below_step bzs hb); (try clear hb); have hcz163_0 : w162.cell? ⟨gb242, 0, none⟩ = some (.int .i64 a1_0) := (blk_cell BK242.out 0).trans rfl; have hcz163_1 : w162.cell? ⟨gb242, 1, none⟩ = some (.int .i64 a1_1) := (blk_cell BK242.out 1).trans rfl; have hcz163_2 : w162.cell? ⟨gb242, 2, none⟩ = some (.int .i64 a1_2) := (blk_cell BK242.out 2).trans rfl; have hcz163_3 : w162.cell? ⟨gb242, 3, none⟩ = some (.int .i64 a1_3) := (blk_cell BK242.out 3).trans rfl; have hfz163_0 := blk_frozen BK242.out 0; have hfz163_1 := blk_frozen BK242.out 1; have hfz163_2 := blk_frozen BK242.out 2; have hfz163_3 := blk_frozen BK242.out 3; have hcz164_0 : w162.cell? ⟨gb241, 0, none⟩ = some (.int .i64 a0_0) := (blk_cell BK241.out 0).trans rfl; have hcz164_1 : w162.cell? ⟨gb241, 1, none⟩ = some (.int .i64 a0_1) := (blk_cell BK241.out 1).trans rfl; have hcz164_2 : w162.cell? ⟨gb241, 2, none⟩ = some (.int .i64 a0_2) := (blk_cell BK241.out 2).trans rfl; have hcz164_3 : w162.cell? ⟨gb241, 3, none⟩ = some (.int .i64 a0_3) := (blk_cell BK241.out 3).trans rfl; have hfz164_0 := blk_frozen BK241.out 0; have hfz164_1 := blk_frozen BK241.out 1; have hfz164_2 := blk_frozen BK241.out 2; have hfz164_3 := blk_frozen BK241.out 3) | (go_at_call 171; (with_reducible refine (impl_IsOn.calls a1_0 a1_1 a1_2 a1_3 a0_2 a0_3 true _ A151.out).mono ?_); rintro e w165 ⟨rfl, hb⟩; replace BK241 := Aside0.mk (blk_below (g := gb241) (o := .cells #[.int .i64 a0_0, .int .i64 a0_1, .int .i64 a0_2, .int .i64 a0_3] 85 (0, 0)) (kz BK241) hb); replace BK242 := Aside0.mk (blk_below (g := gb242) (o := .cells #[.int .i64 a1_0, .int .i64 a1_1, .int .i64 a1_2, .int .i64 a1_3] 85 (0, 0)) (kz BK242) hb); replace HB := Aside0.mk (below_step bzs hb); (try clear hb)))
              go_ret
              exact ⟨ez, bzs⟩
             ·replace c152 := Bool.eq_false_iff.mpr c152
              subst c152
              have H1 : (some 0) = some r := by rw [if_neg (show ¬ (false = true) by decide)] at H; exact H
              clear H
              have H := H1
              clear H1
              obtain rfl := Option.some.inj H
              have hnb166 := NB241_242.out
              have hnc166 := NB242_241.out
              have hcz167_0 : wc.cell? ⟨gb241, 0, none⟩ = some (.int .i64 a0_0) := (blk_cell BK241.out 0).trans rfl
              have hcz167_1 : wc.cell? ⟨gb241, 1, none⟩ = some (.int .i64 a0_1) := (blk_cell BK241.out 1).trans rfl
              have hcz167_2 : wc.cell? ⟨gb241, 2, none⟩ = some (.int .i64 a0_2) := (blk_cell BK241.out 2).trans rfl
              have hcz167_3 : wc.cell? ⟨gb241, 3, none⟩ = some (.int .i64 a0_3) := (blk_cell BK241.out 3).trans rfl
              have hfz167_0 := blk_frozen BK241.out 0
              have hfz167_1 := blk_frozen BK241.out 1
              have hfz167_2 := blk_frozen BK241.out 2
              have hfz167_3 := blk_frozen BK241.out 3
              have hcz168_0 : wc.cell? ⟨gb242, 0, none⟩ = some (.int .i64 a1_0) := (blk_cell BK242.out 0).trans rfl
              have hcz168_1 : wc.cell? ⟨gb242, 1, none⟩ = some (.int .i64 a1_1) := (blk_cell BK242.out 1).trans rfl
              have hcz168_2 : wc.cell? ⟨gb242, 2, none⟩ = some (.int .i64 a1_2) := (blk_cell BK242.out 2).trans rfl
              have hcz168_3 : wc.cell? ⟨gb242, 3, none⟩ = some (.int .i64 a1_3) := (blk_cell BK242.out 3).trans rfl
              have hfz168_0 := blk_frozen BK242.out 0
              have hfz168_1 := blk_frozen BK242.out 1
              have hfz168_2 := blk_frozen BK242.out 2
              have hfz168_3 := blk_frozen BK242.out 3
              go_wp2_with (first | ((with_reducible refine gate_callee (f := 171) rfl ?_); refine gl (some 90) Try.func171 #[.agg #[.int .i64 a0_0, .int .i64 a0_1, .int .i64 a0_2, .int .i64 a0_3], .agg #[.int .i64 a1_0, .int .i64 a1_1]] ?_; (with_reducible refine (impl_IsOn.calls a0_0 a0_1 a0_2 a0_3 a1_0 a1_1 false _ A124.out).mono ?_); rintro e w169 ⟨rfl, hb⟩; refine ⟨_, rfl, ?_⟩; replace BK241 := Aside0.mk (blk_below (g := gb241) (o := .cells #[.int .i64 a0_0, .int .i64 a0_1, .int .i64 a0_2, .int .i64 a0_3] 85 (0, 0)) (kz BK241) hb); replace BK242 := Aside0.mk (blk_below (g := gb242) (o := .cells #[.int .i64 a1_0, .int .i64 a1_1, .int .i64 a1_2, .int .i64 a1_3] 85 (0, 0)) (kz BK242) hb); replace HB := Aside0.mk (below_step bzs hb); (try clear hb); have hcz170_0 : w169.cell? ⟨gb241, 0, none⟩ = some (.int .i64 a0_0) := (blk_cell BK241.out 0).trans rfl; have hcz170_1 : w169.cell? ⟨gb241, 1, none⟩ = some (.int .i64 a0_1) := (blk_cell BK241.out 1).trans rfl; have hcz170_2 : w169.cell? ⟨gb241, 2, none⟩ = some (.int .i64 a0_2) := (blk_cell BK241.out 2).trans rfl; have hcz170_3 : w169.cell? ⟨gb241, 3, none⟩ = some (.int .i64 a0_3) := (blk_cell BK241.out 3).trans rfl; have hfz170_0 := blk_frozen BK241.out 0; have hfz170_1 := blk_frozen BK241.out 1; have hfz170_2 := blk_frozen BK241.out 2; have hfz170_3 := blk_frozen BK241.out 3; have hcz171_0 : w169.cell? ⟨gb242, 0, none⟩ = some (.int .i64 a1_0) := (blk_cell BK242.out 0).trans rfl; have hcz171_1 : w169.cell? ⟨gb242, 1, none⟩ = some (.int .i64 a1_1) := (blk_cell BK242.out 1).trans rfl; have hcz171_2 : w169.cell? ⟨gb242, 2, none⟩ = some (.int .i64 a1_2) := (blk_cell BK242.out 2).trans rfl; have hcz171_3 : w169.cell? ⟨gb242, 3, none⟩ = some (.int .i64 a1_3) := (blk_cell BK242.out 3).trans rfl; have hfz171_0 := blk_frozen BK242.out 0; have hfz171_1 := blk_frozen BK242.out 1; have hfz171_2 := blk_frozen BK242.out 2; have hfz171_3 := blk_frozen BK242.out 3) | (go_at_call 171; (with_reducible refine (impl_IsOn.calls a0_0 a0_1 a0_2 a0_3 a1_2 a1_3 false _ A130.out).mono ?_); rintro e w172 ⟨rfl, hb⟩; replace BK241 := Aside0.mk (blk_below (g := gb241) (o := .cells #[.int .i64 a0_0, .int .i64 a0_1, .int .i64 a0_2, .int .i64 a0_3] 85 (0, 0)) (kz BK241) hb); replace BK242 := Aside0.mk (blk_below (g := gb242) (o := .cells #[.int .i64 a1_0, .int .i64 a1_1, .int .i64 a1_2, .int .i64 a1_3] 85 (0, 0)) (kz BK242) hb); replace HB := Aside0.mk (below_step bzs hb); (try clear hb); have hcz173_0 : w172.cell? ⟨gb242, 0, none⟩ = some (.int .i64 a1_0) := (blk_cell BK242.out 0).trans rfl; have hcz173_1 : w172.cell? ⟨gb242, 1, none⟩ = some (.int .i64 a1_1) := (blk_cell BK242.out 1).trans rfl; have hcz173_2 : w172.cell? ⟨gb242, 2, none⟩ = some (.int .i64 a1_2) := (blk_cell BK242.out 2).trans rfl; have hcz173_3 : w172.cell? ⟨gb242, 3, none⟩ = some (.int .i64 a1_3) := (blk_cell BK242.out 3).trans rfl; have hfz173_0 := blk_frozen BK242.out 0; have hfz173_1 := blk_frozen BK242.out 1; have hfz173_2 := blk_frozen BK242.out 2; have hfz173_3 := blk_frozen BK242.out 3; have hcz174_0 : w172.cell? ⟨gb241, 0, none⟩ = some (.int .i64 a0_0) := (blk_cell BK241.out 0).trans rfl; have hcz174_1 : w172.cell? ⟨gb241, 1, none⟩ = some (.int .i64 a0_1) := (blk_cell BK241.out 1).trans rfl; have hcz174_2 : w172.cell? ⟨gb241, 2, none⟩ = some (.int .i64 a0_2) := (blk_cell BK241.out 2).trans rfl; have hcz174_3 : w172.cell? ⟨gb241, 3, none⟩ = some (.int .i64 a0_3) := (blk_cell BK241.out 3).trans rfl; have hfz174_0 := blk_frozen BK241.out 0; have hfz174_1 := blk_frozen BK241.out 1; have hfz174_2 := blk_frozen BK241.out 2; have hfz174_3 := blk_frozen BK241.out 3) | (go_at_call 171; (with_reducible refine (impl_IsOn.calls a1_0 a1_1 a1_2 a1_3 a0_0 a0_1 false _ A139.out).mono ?_); rintro e w175 ⟨rfl, hb⟩; replace BK241 := Aside0.mk (blk_below (g := gb241) (o := .cells #[.int .i64 a0_0, .int .i64 a0_1, .int .i64 a0_2, .int .i64 a0_3] 85 (0, 0)) (kz BK241) hb); replace BK242 := Aside0.mk (blk_below (g := gb242) (o := .cells #[.int .i64 a1_0, .int .i64 a1_1, .int .i64 a1_2, .int .i64 a1_3] 85 (0, 0)) (kz BK242) hb); replace HB := Aside0.mk (below_step bzs hb); (try clear hb); have hcz176_0 : w175.cell? ⟨gb242, 0, none⟩ = some (.int .i64 a1_0) := (blk_cell BK242.out 0).trans rfl; have hcz176_1 : w175.cell? ⟨gb242, 1, none⟩ = some (.int .i64 a1_1) := (blk_cell BK242.out 1).trans rfl; have hcz176_2 : w175.cell? ⟨gb242, 2, none⟩ = some (.int .i64 a1_2) := (blk_cell BK242.out 2).trans rfl; have hcz176_3 : w175.cell? ⟨gb242, 3, none⟩ = some (.int .i64 a1_3) := (blk_cell BK242.out 3).trans rfl; have hfz176_0 := blk_frozen BK242.out 0; have hfz176_1 := blk_frozen BK242.out 1; have hfz176_2 := blk_frozen BK242.out 2; have hfz176_3 := blk_frozen BK242.out 3; have hcz177_0 : w175.cell? ⟨gb241, 0, none⟩ = some (.int .i64 a0_0) := (blk_cell BK241.out 0).trans rfl; have hcz177_1 : w175.cell? ⟨gb241, 1, none⟩ = some (.int .i64 a0_1) := (blk_cell BK241.out 1).trans rfl; have hcz177_2 : w175.cell? ⟨gb241, 2, none⟩ = some (.int .i64 a0_2) := (blk_cell BK241.out 2).trans rfl; have hcz177_3 : w175.cell? ⟨gb241, 3, none⟩ = some (.int .i64 a0_3) := (blk_cell BK241.out 3).trans rfl; have hfz177_0 := blk_frozen BK241.out 0; have hfz177_1 := blk_frozen BK241.out 1; have hfz177_2 := blk_frozen BK241.out 2; have hfz177_3 := blk_frozen BK241.out 3) | (go_at_call 171; (with_reducible refine (impl_IsOn.calls a1_0 a1_1 a1_2 a1_3 a0_2 a0_3 false _ A151.out).mono ?_); rintro e w178 ⟨rfl, hb⟩; replace BK241 := Aside0.mk (blk_below (g := gb241) (o := .cells #[.int .i64 a0_0, .int .i64 a0_1, .int .i64 a0_2, .int .i64 a0_3] 85 (0, 0)) (kz BK241) hb); replace BK242 := Aside0.mk (blk_below (g := gb242) (o := .cells #[.int .i64 a1_0, .int .i64 a1_1, .int .i64 a1_2, .int .i64 a1_3] 85 (0, 0)) (kz BK242) hb); replace HB := Aside0.mk (below_step bzs hb); (try clear hb)))
              go_ret
              exact ⟨ez, bzs⟩

end Go.Proofs.Ytdfehjfmihokpaa.PFnExactSizeAt
