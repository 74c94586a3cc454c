-- Written by a program of this session's: the kit's print, turned (turnprint.py): functions, and that Go comes to just their answers.
import Derived.Test.YtdfehjfmihokpaaZ
import Derived.Test.YtdfehjfmihokpaaPFnExactTouchedTilesx0
import Derived.Test.YtdfehjfmihokpaaPFnExactTouchedTilesx11
import Derived.Test.YtdfehjfmihokpaaPFnExactTouchedTilesx13
namespace Go.Proofs.Ytdfehjfmihokpaa.PFnExactTouchedTiles
open Go.RowKit Go.Proofs.YtdfehjfmihokpaaW.PrintWords Go.Proofs.YtdfehjfmihokpaaW.PrintLast Go.Proofs.YtdfehjfmihokpaaW.PrintMore Go.Proofs.YtdfehjfmihokpaaGeo Go.Proofs.YtdfehjfmihokpaaHand Go.Proofs.YtdfehjfmihokpaaMeet Go.Proofs.YtdfehjfmihokpaaQuiet Go.Proofs.YtdfehjfmihokpaaZ
attribute [local go_sem] max2_int min2_int max_two min_two max_three min_three max_four min_four   -- for this text's walks alone
set_option linter.unusedVariables false
set_option linter.unusedSimpArgs false

/-! ### spec_l20Pieces: function 97 -/
mutual
def spec_l20Pieces.j0 : Nat → List (S85) → List (S110) → Bool → Int → Int → Int → ByteArray → List (S82) → Int → Int → Int → Int → Option ((List (S110)))
 | 0, _, _, _, _, _, _, _, _, _, _, _, _ => none
 | k + 1, x1, x7, x20, x275000, x275001, x275002, x275003, x275004, x276000, x276001, x276002, x276003 => if x20 = true then (some (([(⟨x275000, 0⟩ : S110)] : List (S110)))) else (spec_l20Pieces.l0 k x1 x7 0 x275000 x275001 x275002 x275003 x275004 x276000 x276001 x276002 x276003)
def spec_l20Pieces.l0 : Nat → List (S85) → List (S110) → Int → Int → Int → Int → ByteArray → List (S82) → Int → Int → Int → Int → Option ((List (S110)))
 | 0, _, _, _, _, _, _, _, _, _, _, _, _ => none
 | k + 1, x1, x7, x8, x275000, x275001, x275002, x275003, x275004, x276000, x276001, x276002, x276003 => if x8 < (x1.length : Int) then (if 0 ≤ x8 then ((spec_MeetsBox.f k ((rd_T85 x1 x8).f0.f0) ((rd_T85 x1 x8).f0.f1) ((rd_T85 x1 x8).f1.f0) ((rd_T85 x1 x8).f1.f1) x276000 x276001 x276002 x276003).bind fun t285 => (if t285 = true then (if x7.length < 8796093022208 then (spec_l20Pieces.l0 k x1 (x7 ++ [(⟨x275000, x8⟩ : S110)]) (wrap64 (x8 + 1)) x275000 x275001 x275002 x275003 x275004 x276000 x276001 x276002 x276003) else (none)) else (spec_l20Pieces.l0 k x1 x7 (wrap64 (x8 + 1)) x275000 x275001 x275002 x275003 x275004 x276000 x276001 x276002 x276003))) else (none)) else (some x7)
end
def spec_l20Pieces.f (k : Nat) (a0_0 : Int) (a0_1 : Int) (a0_2 : Int) (a0_3 : ByteArray) (l0_4 : List (S82)) (l1 : List (S85)) (a2_0 : Int) (a2_1 : Int) (a2_2 : Int) (a2_3 : Int) : Option ((List (S110))) := (some (([] : List (S110)) : List (S110))).bind fun y276 => (if a0_1 = 1 then (if 0 < (l0_4.length : Int) then ((spec_InBox.f a2_0 a2_1 a2_2 a2_3 ((rd_T82 l0_4 0).f0) ((rd_T82 l0_4 0).f1)).bind fun t280 => (spec_l20Pieces.j0 k l1 y276 t280 a0_0 a0_1 a0_2 a0_3 l0_4 a2_0 a2_1 a2_2 a2_3)) else (none)) else (spec_l20Pieces.j0 k l1 y276 false a0_0 a0_1 a0_2 a0_3 l0_4 a2_0 a2_1 a2_2 a2_3))
theorem spec_l20Pieces.mono_l : ∀ k, (∀ y0 y1 y2 y3 y4 y5 y6 y7 y8 y9 y10 y11, LeO (spec_l20Pieces.j0 k y0 y1 y2 y3 y4 y5 y6 y7 y8 y9 y10 y11) (spec_l20Pieces.j0 (k + 1) y0 y1 y2 y3 y4 y5 y6 y7 y8 y9 y10 y11)) ∧ (∀ y0 y1 y2 y3 y4 y5 y6 y7 y8 y9 y10 y11, LeO (spec_l20Pieces.l0 k y0 y1 y2 y3 y4 y5 y6 y7 y8 y9 y10 y11) (spec_l20Pieces.l0 (k + 1) y0 y1 y2 y3 y4 y5 y6 y7 y8 y9 y10 y11))
 | 0 => ⟨fun _ _ _ _ _ _ _ _ _ _ _ _ r h => by simp [spec_l20Pieces.j0] at h, fun _ _ _ _ _ _ _ _ _ _ _ _ r h => by simp [spec_l20Pieces.l0] at h⟩
 | k + 1 => by
  obtain ⟨ih0, ih1⟩ := spec_l20Pieces.mono_l k; refine ⟨?_, ?_⟩
  ·intro y0 y1 y2 y3 y4 y5 y6 y7 y8 y9 y10 y11
   unfold spec_l20Pieces.j0
   repeat' first | (with_reducible first | exact ih0 _ _ _ _ _ _ _ _ _ _ _ _ | exact ih1 _ _ _ _ _ _ _ _ _ _ _ _ | exact spec_MeetsBox.mono _ _ _ _ _ _ _ _ _ | exact LeO.refl _ | exact LeO.none _ | refine LeO.ite ?_ ?_ | refine LeO.bind ?_ (fun _ => ?_)) | exact ih0 _ _ _ _ _ _ _ _ _ _ _ _ | exact ih1 _ _ _ _ _ _ _ _ _ _ _ _ | exact spec_MeetsBox.mono _ _ _ _ _ _ _ _ _ | exact LeO.none _ | refine LeO.ite ?_ ?_ | refine LeO.bind ?_ (fun _ => ?_)
  ·intro y0 y1 y2 y3 y4 y5 y6 y7 y8 y9 y10 y11
   unfold spec_l20Pieces.l0
   repeat' first | (with_reducible first | exact ih0 _ _ _ _ _ _ _ _ _ _ _ _ | exact ih1 _ _ _ _ _ _ _ _ _ _ _ _ | exact spec_MeetsBox.mono _ _ _ _ _ _ _ _ _ | exact LeO.refl _ | exact LeO.none _ | refine LeO.ite ?_ ?_ | refine LeO.bind ?_ (fun _ => ?_)) | exact ih0 _ _ _ _ _ _ _ _ _ _ _ _ | exact ih1 _ _ _ _ _ _ _ _ _ _ _ _ | exact spec_MeetsBox.mono _ _ _ _ _ _ _ _ _ | exact LeO.none _ | refine LeO.ite ?_ ?_ | refine LeO.bind ?_ (fun _ => ?_)
theorem spec_l20Pieces.mono : ∀ a0 a1 a2 a3 a4 a5 a6 a7 a8 a9 k, LeO (spec_l20Pieces.f k a0 a1 a2 a3 a4 a5 a6 a7 a8 a9) (spec_l20Pieces.f (k + 1) a0 a1 a2 a3 a4 a5 a6 a7 a8 a9) := by
 intro a0 a1 a2 a3 a4 a5 a6 a7 a8 a9 k; obtain ⟨ih0, ih1⟩ := spec_l20Pieces.mono_l k
 unfold spec_l20Pieces.f
 repeat' first | (with_reducible first | exact ih0 _ _ _ _ _ _ _ _ _ _ _ _ | exact ih1 _ _ _ _ _ _ _ _ _ _ _ _ | exact spec_MeetsBox.mono _ _ _ _ _ _ _ _ _ | exact LeO.refl _ | exact LeO.none _ | refine LeO.ite ?_ ?_ | refine LeO.bind ?_ (fun _ => ?_)) | exact ih0 _ _ _ _ _ _ _ _ _ _ _ _ | exact ih1 _ _ _ _ _ _ _ _ _ _ _ _ | exact spec_MeetsBox.mono _ _ _ _ _ _ _ _ _ | exact LeO.none _ | refine LeO.ite ?_ ?_ | refine LeO.bind ?_ (fun _ => ?_)
def spec_l20Pieces.T2 : Bool × List (List Nat × List Nat) := (true, [([], []), ([0], [0]), ([1], [1]), ([2], [2]), ([3], [3]), ([3], [3]), ([5, 3], [3, 5]), ([6, 3], [3, 6]), ([7, 3], [3, 7]), ([4, 8, 3, 3], [3, 4, 8]), ([3, 9], [3, 9])])
def spec_l20Pieces.B2 : List Nat := [0, 1, 3, 7, 15, 15, 47, 111, 239, 511, 1023]
theorem spec_l20Pieces.tab2 : rtab .any (opsOf Try.f97 2) = spec_l20Pieces.T2 := by kernel_rfl
theorem spec_l20Pieces.bits2 : waitsOk spec_l20Pieces.T2.2 spec_l20Pieces.B2 = true := by kernel_rfl
set_option maxHeartbeats 8000000 in
set_option maxRecDepth 100000 in
theorem spec_l20Pieces.calls (k : Nat) (a0_0 : Int) (a0_1 : Int) (a0_2 : Int) (a0_3 : ByteArray) (A0_4 : Option Addr) (c0_4 : Nat) (l0_4 : List (S82)) (A1 : Option Addr) (c1 : Nat) (l1 : List (S85)) (a2_0 : Int) (a2_1 : Int) (a2_2 : Int) (a2_3 : Int) (r : List (S110)) (w : World) (hr0_4 : Kd.C k82 w A0_4 l0_4.length l0_4) (hc0_4 : l0_4.length ≤ c0_4) (hr1 : Kd.C k85 w A1 l1.length l1) (hc1 : l1.length ≤ c1) (h : spec_l20Pieces.f k a0_0 a0_1 a0_2 a0_3 l0_4 l1 a2_0 a2_1 a2_2 a2_3 = some r) :
  Calls Try.prog 97 #[.agg #[.int .i64 a0_0, .int .i64 a0_1, .int .i64 a0_2, .string a0_3, .slice A0_4 l0_4.length c0_4], .slice A1 l1.length c1, .agg #[.int .i64 a2_0, .int .i64 a2_1, .int .i64 a2_2, .int .i64 a2_3]] w fun e w' => ∃ v0_ : Value, e = .returned (v0_) ∧ Kd.R k110 110 w' w.heap.size (fun _ => True) v0_ r ∧ Below w.heap.size w w' := by
 have hu29 := Try.underlying29; have hu98 := Try.underlying98; have hu82 := Try.underlying82; have hu110 := Try.underlying110; have hu85 := Try.underlying85; have HR0_4 := Aside0.mk hr0_4; have HC0_4 := Aside0.mk hc0_4; clear hr0_4 hc0_4; have HR1 := Aside0.mk hr1; have HC1 := Aside0.mk hc1; clear hr1 hc1; have HB := Aside0.mk (Below.refl w.heap.size w); have H : ((some (([] : List (S110)) : List (S110))).bind fun y276 => (if a0_1 = 1 then (if 0 < (l0_4.length : Int) then ((spec_InBox.f a2_0 a2_1 a2_2 a2_3 ((rd_T82 l0_4 0).f0) ((rd_T82 l0_4 0).f1)).bind fun t280 => (spec_l20Pieces.j0 k l1 y276 t280 a0_0 a0_1 a0_2 a0_3 l0_4 a2_0 a2_1 a2_2 a2_3)) else (none)) else (spec_l20Pieces.j0 k l1 y276 false a0_0 a0_1 a0_2 a0_3 l0_4 a2_0 a2_1 a2_2 a2_3))) = some r := h; clear h; obtain ⟨y276, hy276⟩ : ∃ y_ : List (S110), y_ = (([] : List (S110))) := ⟨_, rfl⟩
 replace H : (if a0_1 = 1 then (if 0 < (l0_4.length : Int) then ((spec_InBox.f a2_0 a2_1 a2_2 a2_3 ((rd_T82 l0_4 0).f0) ((rd_T82 l0_4 0).f1)).bind fun t280 => (spec_l20Pieces.j0 k l1 y276 t280 a0_0 a0_1 a0_2 a0_3 l0_4 a2_0 a2_1 a2_2 a2_3)) else (none)) else (spec_l20Pieces.j0 k l1 y276 false a0_0 a0_1 a0_2 a0_3 l0_4 a2_0 a2_1 a2_2 a2_3)) = some r := by first | (rw [hy276]; with_reducible exact H) | (have H2_ := (Option.bind_some _ _).symm.trans H; rw [hy276]; with_reducible exact H2_) | (have H2_ := (Option.bind_some _ _).symm.trans H; with_reducible exact H2_) | with_reducible exact H | (rw [hy276]; exact H) | exact H
 have Ny276 := Aside0.mk hy276; clear hy276; have HC4 := Aside0.mk H; clear H
 go_enter Try.func97, Try.ntmps97
 go_upto_region 2 with (first | ((with_reducible refine gt (some 3) rfl ?_); refine bx #[.int .i64 a0_0, .int .i64 a0_1, .int .i64 a0_2, .string a0_3, .slice A0_4 l0_4.length c0_4] 29 ?_; intro gb274 hg w5 hbox hb; have BK274 := Aside0.mk (hbox); have GW274 := Aside0.mk (gez HB hg); have GE274 := Aside0.mk (gez HB hg); replace HB := Aside0.mk (below_step bz hb); clear hb hbox hg) | ((with_reducible refine gt (some 5) rfl ?_); refine bx #[.int .i64 a2_0, .int .i64 a2_1, .int .i64 a2_2, .int .i64 a2_3] 98 ?_; intro gb275 hg w6 hbox hb; have BK275 := Aside0.mk (hbox); have GW275 := Aside0.mk (gez HB hg); have GE275 := Aside0.mk (gez HB hg); replace HB := Aside0.mk (below_step bzs hb); have NB274_275 := Aside0.mk ((by rw [hg]; exact Nat.ne_of_lt (blk_lt (g := gb274) (o := .cells #[.int .i64 a0_0, .int .i64 a0_1, .int .i64 a0_2, .string a0_3, .slice A0_4 l0_4.length c0_4] 29 (0, 0)) (kz BK274)) : gb274 ≠ gb275)); have NB275_274 := Aside0.mk ((by rw [hg]; exact Nat.ne_of_gt (blk_lt (g := gb274) (o := .cells #[.int .i64 a0_0, .int .i64 a0_1, .int .i64 a0_2, .string a0_3, .slice A0_4 l0_4.length c0_4] 29 (0, 0)) (kz BK274)) : gb275 ≠ gb274)); replace BK274 := Aside0.mk (bbz BK274 hb); clear hb hbox hg) | ((with_reducible refine gate_dst (N := 9) rfl ?_); refine Kd.R_lit k110 _ 110 ?hg (N := 9) ?hd (xs := ([] : List (S110))) (inner := []) (ok := fun _ => True) (okp := fun _ => True) ?hr ?hp (fun _ hk => hk) trivial (Below.refl _ _) (Nat.le_refl _) (by simp) ?_; (case hd => rfl); (case hg => rfl); (case hr => first | (go_simp; done) | (go_simp; rfl)); (case hp => exact (Reps.none _ _)); intro v277 w7 ho8 hb hg_ hnew_; clear hg_ hnew_; (first | rw [← Ny276.out] at ho8 | (simp only [Int.reduceToNat] at ho8; rw [← Ny276.out] at ho8)); have HO278 := Aside0.mk (Kd.R_lower ho8 (below_size bzs)); replace BK274 := Aside0.mk (bbz BK274 hb); replace BK275 := Aside0.mk (bbz BK275 hb); replace HB := Aside0.mk (below_step bzs hb); clear hb ho8))
 (try simp only [Act.put, List.setIfInBounds_toArray, List.set_cons_zero, List.set_cons_succ])
 go_cut [20] (fun v20 wc => ∃ (kq : Nat) (x20_3 : Bool), v20 = .bool x20_3 ∧ Aside0 (spec_l20Pieces.j0 kq l1 y276 x20_3 a0_0 a0_1 a0_2 a0_3 l0_4 a2_0 a2_1 a2_2 a2_3 = some r) ∧ Aside0 (kq ≤ k) ∧ Aside0 (Kd.R k110 110 wc w.heap.size (fun _ => True) v277 y276) ∧ Aside0 (wc.heap[gb274]? = some (.cells #[.int .i64 a0_0, .int .i64 a0_1, .int .i64 a0_2, .string a0_3, (.slice A0_4 l0_4.length c0_4)] 29 (0, 0))) ∧ Aside0 (wc.heap[gb275]? = some (.cells #[.int .i64 a2_0, .int .i64 a2_1, .int .i64 a2_2, .int .i64 a2_3] 98 (0, 0))) ∧ Aside0 (Below w.heap.size w wc))
 case first =>
  have H := HC4.out; clear HC4
  by_cases c9 : a0_1 = 1
  ·rw [if_pos c9] at H; have c9b0 : (a0_1 == 1) = true := beq_iff_eq.mpr c9; have c9b1 : (a0_1 != 1) = false := bne_eq_false_iff_eq.mpr c9; clear c9
   (first | rw [c9b0] | (simp only [i64_w, i32_w]; rw [c9b0]) | skip)
   by_cases c10 : 0 < (l0_4.length : Int)
   ·rw [if_pos c10] at H; have c10b0 := decide_eq_true c10; have c10b1 : decide (0 < l0_4.length) = true := decide_eq_true (by omega); clear c10; replace H := Option.bind_eq_some_iff.mp H; obtain ⟨t280, A110, H⟩ := H; have A11 := Aside0.mk A110; clear A110; have H' := Aside0.mk H; clear H; (try go_wp2); replace HO278 := Aside0.mk (Kd.R_drew HO278.out); replace BK274 := Aside0.mk (blk_drew BK274.out); replace BK275 := Aside0.mk (blk_drew BK275.out); replace HB := Aside0.mk (below_drew1 HB.out); have p279 : 0 ≤ (0 : Int) := (by omega)
    have q279 : 0 < (l0_4.length : Int) := of_decide_eq_true az; obtain ⟨ad279, e279, hx279_0, hx279_1⟩ := at_T82 HR0_4.out 0 p279 q279; have hw279_1 := hx279_1; (try rw [show ((0 : Int)).toNat = 0 from rfl] at hw279_1); (try rw [show 0 * 2 = 0 from rfl] at hw279_1); (try rw [Addr.add_zero'] at hw279_1); have hw279_0 := hx279_0; (try rw [show ((0 : Int)).toNat = 0 from rfl] at hw279_0); (try rw [show 0 * 2 = 0 from rfl] at hw279_0); (try rw [Addr.add_zero'] at hw279_0)
    cases e279
    have qi279 : (0 < l0_4.length) = True := eq_true (by omega); (try rw [show ((0 : Int)).toNat = 0 from rfl] at hx279_0); (try rw [show 0 * 2 = 0 from rfl] at hx279_0); (try rw [Addr.add_zero'] at hx279_0); (try rw [show ((0 : Int)).toNat = 0 from rfl] at hx279_1); (try rw [show 0 * 2 = 0 from rfl] at hx279_1); (try rw [Addr.add_zero'] at hx279_1); replace hx279_0 := xz HB hx279_0; replace hx279_1 := xz HB hx279_1; replace p279 := eq_true p279; replace q279 := eq_true q279; refine start_ (n := 11) (S := fun w' => w'.cell? ⟨gb274, 0, none⟩ = some (.int .i64 a0_0) ∧ w'.cell? ⟨gb274, 1, none⟩ = some (.int .i64 a0_1) ∧ w'.cell? ⟨gb274, 2, none⟩ = some (.int .i64 a0_2) ∧ w'.cell? ⟨gb274, 3, none⟩ = some (.string a0_3) ∧ w'.cell? ⟨gb274, 4, none⟩ = some (.slice (some ad279) l0_4.length c0_4) ∧ w'.cell? ⟨gb275, 0, none⟩ = some (.int .i64 a2_0) ∧ w'.cell? ⟨gb275, 1, none⟩ = some (.int .i64 a2_1) ∧ w'.cell? ⟨gb275, 2, none⟩ = some (.int .i64 a2_2) ∧ w'.cell? ⟨gb275, 3, none⟩ = some (.int .i64 a2_3) ∧ w'.cell? ad279 = some (.int .i64 ((rd_T82 l0_4 0).f0)) ∧ w'.cell? ⟨ad279.block, ad279.off + 1, none⟩ = some (.int .i64 ((rd_T82 l0_4 0).f1))) (ds := []) #[F,F,F,F,F,F,F,F,F,F,F] (by kernel_rfl) rfl rfl ⟨bc BK274 0, bc BK274 1, bc BK274 2, bc BK274 3, bc BK274 4, bc BK275 0, bc BK275 1, bc BK275 2, bc BK275 3, (xz HB hw279_0 :), (xz HB hw279_1 :)⟩ (fun hHeld => ?_); refine with_tabW spec_l20Pieces.tab2 spec_l20Pieces.bits2 (fun HT_ HW_ => ?_); generalize w7.drew = w12 at HO278 BK274 BK275 HB hx279_0 hx279_1 hHeld ⊢
    refine pz HT_ 0 10 ?_; refine tz11 HT_ HW_ hHeld 1 11 ?_; refine pz HT_ 2 12 ?_; refine pz HT_ 3 13 ?_; refine pz HT_ 5 15 ?_; refine tz11 HT_ HW_ hHeld 4 14 ?_; refine tz11 HT_ HW_ hHeld 6 16 ?_; refine pz HT_ 7 17 ?_; refine tz11 HT_ HW_ hHeld 8 18 ?_; refine oz HT_ 9 (some 19) (fun K hK => ?_); refine gz Try.func141 #[.agg #[.int .i64 a2_0, .int .i64 a2_1, .int .i64 a2_2, .int .i64 a2_3], .agg #[.int .i64 ((rd_T82 l0_4 0).f0), .int .i64 ((rd_T82 l0_4 0).f1)]] ?_
    with_reducible refine (spec_InBox.calls a2_0 a2_1 a2_2 a2_3 ((rd_T82 l0_4 0).f0) ((rd_T82 l0_4 0).f1) t280 _ A11.out).mono ?_
    rintro e w13 ⟨rfl, hb⟩; refine ⟨_, rfl, ?_⟩; replace HO278 := Aside0.mk (rbz HO278 hb); replace BK274 := Aside0.mk (bbz BK274 hb); replace BK275 := Aside0.mk (bbz BK275 hb); replace HB := Aside0.mk (below_step bzs hb); (try clear hb); (try clear hb2); (try clear hk); (try clear hi); refine hK.out _ _ ⟨bc BK274 0, bc BK274 1, bc BK274 2, bc BK274 3, bc BK274 4, bc BK275 0, bc BK275 1, bc BK275 2, bc BK275 3, (xz HB hw279_0 :), (xz HB hw279_1 :)⟩ (fun hHeld => ?_); clear hK K; refine nz 19 ?_; refine pz HT_ 10 20 ?_; refine dz HT_ ?_; (try go_wp2)
    go_meet
    case rel => exact ⟨_, (t280), rz, H', ⟨qz⟩, ⟨hr HO278.out⟩, ⟨kz BK274⟩, ⟨kz BK275⟩, ⟨bzs⟩⟩
   ·rw [if_neg c10] at H
    exact absurd H (by simp)
  ·rw [if_neg c9] at H; have c9b0 : (a0_1 == 1) = false := beq_eq_false_iff_ne.mpr c9; have c9b1 : (a0_1 != 1) = true := bne_iff_ne.mpr c9
   (first | rw [c9b0] | (simp only [i64_w, i32_w]; rw [c9b0]) | skip)
   have H' := Aside0.mk H; clear H; (try go_wp2); replace HO278 := Aside0.mk (Kd.R_drew HO278.out); replace BK274 := Aside0.mk (blk_drew BK274.out); replace BK275 := Aside0.mk (blk_drew BK275.out); replace HB := Aside0.mk (below_drew1 HB.out); refine start_ (n := 11) (S := fun w' => w'.cell? ⟨gb274, 0, none⟩ = some (.int .i64 a0_0) ∧ w'.cell? ⟨gb274, 1, none⟩ = some (.int .i64 a0_1) ∧ w'.cell? ⟨gb274, 2, none⟩ = some (.int .i64 a0_2) ∧ w'.cell? ⟨gb274, 3, none⟩ = some (.string a0_3) ∧ w'.cell? ⟨gb274, 4, none⟩ = some (.slice A0_4 l0_4.length c0_4)) (ds := []) #[F,F,F,F,F,F,F,F,F,F,F] (by kernel_rfl) rfl rfl ⟨bc BK274 0, bc BK274 1, bc BK274 2, bc BK274 3, bc BK274 4⟩ (fun hHeld => ?_); refine with_tabW spec_l20Pieces.tab2 spec_l20Pieces.bits2 (fun HT_ HW_ => ?_); generalize w7.drew = w14 at HO278 BK274 BK275 HB hHeld ⊢; refine pz HT_ 0 10 ?_; refine tz5 HT_ HW_ hHeld 1 11 ?_; refine pz HT_ 2 12 ?_; refine pz HT_ 3 13 ?_; refine uz HT_ 4 14 ?_; refine uz HT_ 5 15 ?_; refine uz HT_ 6 16 ?_; refine uz HT_ 7 17 ?_; refine uz HT_ 8 18 ?_; refine uz HT_ 9 19 ?_; refine pz HT_ 10 20 ?_; refine dz HT_ ?_; (try go_wp2)
   go_meet
   case rel => exact ⟨_, (false), rz, H', ⟨qz⟩, ⟨hr HO278.out⟩, ⟨kz BK274⟩, ⟨kz BK275⟩, ⟨bzs⟩⟩
 case rest =>
  clear HC4; (try clear c1); (try clear p2); (try clear q2); (try clear hx2); (try clear qi2); (try clear c9); (try clear c9b0); (try clear c9b1); (try clear c10); (try clear c10b0); (try clear c10b1); (try clear c14); (try clear hx279_0); (try clear hx279_1); (try clear p279); (try clear q279); obtain ⟨kq, x20_3, rfl, HA, HJ3, HO_7, BK274, BK275, HB⟩ := hcut
  cases kq with
  | zero => exact absurd HA.out (by simp [spec_l20Pieces.j0])
  | succ kj3 =>
   have H := HA.out; clear HA; simp only [spec_l20Pieces.j0] at H
   by_cases c15 : x20_3 = true
   ·subst c15; replace H := ift H; obtain ⟨y281, hy281⟩ : ∃ y_ : List (S110), y_ = (([(⟨a0_0, 0⟩ : S110)] : List (S110))) := ⟨_, rfl⟩
    replace H : (some y281) = some r := by first | (rw [hy281]; with_reducible exact H) | (have H2_ := (Option.bind_some _ _).symm.trans H; rw [hy281]; with_reducible exact H2_) | (have H2_ := (Option.bind_some _ _).symm.trans H; with_reducible exact H2_) | with_reducible exact H | (rw [hy281]; exact H) | exact H
    have Ny281 := Aside0.mk hy281; clear hy281; obtain rfl := Option.some.inj H; have hnb16 := NB274_275.out; have hnc16 := NB275_274.out; obtain ⟨hcz17_0, hcz17_1, hcz17_2, hcz17_3, hcz17_4, hfz17_0, hfz17_1, hfz17_2, hfz17_3, hfz17_4⟩ := cells5 BK274; go_wp2_with (first | ((with_reducible refine gate_dst (N := 24) rfl ?_); refine Kd.R_lit k110 _ 110 ?hg (N := 24) ?hd (xs := ([(⟨a0_0, 0⟩ : S110)] : List (S110))) (inner := [.int .i64 a0_0, .int .i64 0]) (ok := fun _ => True) (okp := fun _ => True) ?hr ?hp (fun _ hk => hk) trivial (Below.refl _ _) (Nat.le_refl _) (by simp) ?_; (case hd => rfl); (case hg => rfl); (case hr => first | (go_simp; done) | (go_simp; rfl)); (case hp => exact (Reps.c2 (show Kd.M k110 _ _ _ (⟨a0_0, 0⟩ : S110) [.int .i64 a0_0, .int .i64 0] from (k110_mkM _ _ _ (⟨a0_0, 0⟩ : S110) )) (Reps.none _ _))); intro v282 w18 ho19 hb hg_ hnew_; clear hg_ hnew_; (first | rw [← Ny281.out] at ho19 | (simp only [Int.reduceToNat] at ho19; rw [← Ny281.out] at ho19)); have HO283 := Aside0.mk (Kd.R_lower (Kd.R_new' ho19 (Kd.R_lt (hr HO_7.out))) (below_size bzs)); replace HO_7 := Aside0.mk (Kd.R_elder' (hr HO_7.out) (Kd.R_base ho19) hb); replace BK274 := Aside0.mk (bbz BK274 hb); replace BK275 := Aside0.mk (bbz BK275 hb); replace HB := Aside0.mk (below_step bzs hb); clear hb ho19)); go_ret
    exact ⟨_, ez, hr (Kd.R_mono HO283.out (fun _ hk => trivial)), bzs⟩
   ·replace c15 := Bool.eq_false_iff.mpr c15; subst c15; replace H := iff_ H; have H' := Aside0.mk H; clear H; go_wp2
    go_loopg [7, 8] kj3 (fun kq v7 v8 w' => ∃ (x7_2 : List (S110)) (x8_2 : Int), v8 = .int .i64 x8_2 ∧ Aside0 (spec_l20Pieces.l0 kq l1 x7_2 x8_2 a0_0 a0_1 a0_2 a0_3 l0_4 a2_0 a2_1 a2_2 a2_3 = some r) ∧ Aside0 (kq ≤ kj3) ∧ Aside0 (Kd.R k110 110 w' w.heap.size (fun _ => True) v7 x7_2) ∧ Aside0 (w'.heap[gb274]? = some (.cells #[.int .i64 a0_0, .int .i64 a0_1, .int .i64 a0_2, .string a0_3, (.slice A0_4 l0_4.length c0_4)] 29 (0, 0))) ∧ Aside0 (w'.heap[gb275]? = some (.cells #[.int .i64 a2_0, .int .i64 a2_1, .int .i64 a2_2, .int .i64 a2_3] 98 (0, 0))) ∧ Aside0 (Below w.heap.size w w'))
    case atStart => exact ⟨(y276), (0), rz, H', ⟨Nat.le_refl _⟩, ⟨hr HO_7.out⟩, ⟨kz BK274⟩, ⟨kz BK275⟩, ⟨bzs⟩⟩
    case round =>
     clear H'; (try clear c1); (try clear c2); (try clear p2); (try clear q2); (try clear hx2); (try clear qi2); (try clear c9); (try clear c9b0); (try clear c9b1); (try clear c10); (try clear c10b0); (try clear c10b1); (try clear c14); (try clear c15); (try clear c16); (try clear hcz17_0); (try clear hcz17_1); (try clear hcz17_2); (try clear hcz17_3); (try clear hcz17_4); (try clear hfz17_0); (try clear hfz17_1); (try clear hfz17_2); (try clear hfz17_3); (try clear hfz17_4); (try clear hx279_0); (try clear hx279_1); (try clear p2); (try clear p279); (try clear q2); (try clear q279); obtain ⟨x7_2, x8_2, rfl, HA, HK2, HO_7, BK274, BK275, HB⟩ := hrel
     cases gk with
     | zero => exact absurd HA.out (by simp [spec_l20Pieces.l0])
     | succ k2 =>
      have H := HA.out; clear HA; simp only [spec_l20Pieces.l0] at H
      by_cases c20 : x8_2 < (l1.length : Int)
      ·rw [if_pos c20] at H; have c20b0 := decide_eq_true c20; clear c20
       by_cases c21 : 0 ≤ x8_2
       ·rw [if_pos c21] at H; have c21b0 := decide_eq_true c21; clear c21; replace H := Option.bind_eq_some_iff.mp H; obtain ⟨t285, A220, H⟩ := H; have A22 := Aside0.mk A220; clear A220
        by_cases c23 : t285 = true
        ·subst c23; replace H := ift H
         by_cases c24 : x7_2.length < 8796093022208
         ·rw [if_pos c24] at H; have LMc24 := Aside0.mk c24; clear c24; obtain ⟨y286, hy286⟩ : ∃ y_ : List (S110), y_ = (x7_2 ++ [(⟨a0_0, x8_2⟩ : S110)]) := ⟨_, rfl⟩
          replace H : (spec_l20Pieces.l0 k2 l1 y286 (wrap64 (x8_2 + 1)) a0_0 a0_1 a0_2 a0_3 l0_4 a2_0 a2_1 a2_2 a2_3) = some r := by first | (rw [hy286]; with_reducible exact H) | (have H2_ := (Option.bind_some _ _).symm.trans H; rw [hy286]; with_reducible exact H2_) | (have H2_ := (Option.bind_some _ _).symm.trans H; with_reducible exact H2_) | with_reducible exact H | (rw [hy286]; exact H) | exact H
          have Ny286 := Aside0.mk hy286; clear hy286; have H' := Aside0.mk H; clear H; (try go_wp2); replace HO_7 := Aside0.mk (Kd.R_drew HO_7.out); replace BK274 := Aside0.mk (blk_drew BK274.out); replace BK275 := Aside0.mk (blk_drew BK275.out); replace HB := Aside0.mk (below_drew1 HB.out); have p284 : 0 ≤ (x8_2 : Int) := of_decide_eq_true az; have q284 : x8_2 < (l1.length : Int) := of_decide_eq_true az; obtain ⟨ad284, e284, hx284_0, hx284_1, hx284_2, hx284_3⟩ := at_T85 HR1.out x8_2 p284 q284; have hw284_3 := hx284_3; have hw284_2 := hx284_2; have hw284_1 := hx284_1; have hw284_0 := hx284_0
          cases e284
          replace hx284_0 := xz HB hx284_0; replace hx284_1 := xz HB hx284_1; replace hx284_2 := xz HB hx284_2; replace hx284_3 := xz HB hx284_3; replace p284 := eq_true p284; replace q284 := eq_true q284; refine start_ (n := 6) (S := fun w' => w'.cell? ⟨gb275, 0, none⟩ = some (.int .i64 a2_0) ∧ w'.cell? ⟨gb275, 1, none⟩ = some (.int .i64 a2_1) ∧ w'.cell? ⟨gb275, 2, none⟩ = some (.int .i64 a2_2) ∧ w'.cell? ⟨gb275, 3, none⟩ = some (.int .i64 a2_3) ∧ w'.cell? (ad284.add ((x8_2).toNat * 4)) = some (.int .i64 ((rd_T85 l1 x8_2).f0.f0)) ∧ w'.cell? ⟨(ad284.add ((x8_2).toNat * 4)).block, (ad284.add ((x8_2).toNat * 4)).off + 1, none⟩ = some (.int .i64 ((rd_T85 l1 x8_2).f0.f1)) ∧ w'.cell? ⟨(ad284.add ((x8_2).toNat * 4)).block, (ad284.add ((x8_2).toNat * 4)).off + 2, none⟩ = some (.int .i64 ((rd_T85 l1 x8_2).f1.f0)) ∧ w'.cell? ⟨(ad284.add ((x8_2).toNat * 4)).block, (ad284.add ((x8_2).toNat * 4)).off + 3, none⟩ = some (.int .i64 ((rd_T85 l1 x8_2).f1.f1))) (ds := []) #[F,F,F,F,F,F] (by kernel_rfl) rfl rfl ⟨bc BK275 0, bc BK275 1, bc BK275 2, bc BK275 3, (xz HB hw284_0 :), (xz HB hw284_1 :), (xz HB hw284_2 :), (xz HB hw284_3 :)⟩ (fun hHeld => ?_); generalize wr.drew = w25 at HO_7 BK274 BK275 HB hx284_0 hx284_1 hx284_2 hx284_3 hHeld ⊢; refine pure_ (i := 0) (N := some 31) (v := ?_) (a' := ?_) #[T,F,F,F,F,F] rfl rfl (by kernel_rfl) (fun _ _ _ h => h) (Or.inl ⟨by rfl, ?_⟩) ?_ ?_; rotate_left
          ·intro w'; go_simp
           with_reducible rfl
          rotate_left
          ·simp only [Act.put, List.setIfInBounds_toArray, List.set_cons_zero, List.set_cons_succ, i64_w, i32_w]
           rfl
          refine pure_ (i := 1) (N := some 32) (v := ?_) (a' := ?_) #[T,T,F,F,F,F] rfl rfl (by kernel_rfl) (fun _ _ _ h => h) (Or.inl ⟨by rfl, ?_⟩) ?_ ?_; rotate_left
          ·intro w'; go_simp
           with_reducible rfl
          rotate_left
          ·simp only [Act.put, List.setIfInBounds_toArray, List.set_cons_zero, List.set_cons_succ, i64_w, i32_w]
           rfl
          refine pure_ (i := 2) (N := some 33) (v := ?_) (a' := ?_) #[T,T,T,F,F,F] rfl rfl (by kernel_rfl) (fun _ _ _ h => h) (Or.inl ⟨by rfl, ?_⟩) ?_ ?_; rotate_left
          ·intro w'; go_simp
           with_reducible rfl
          rotate_left
          ·simp only [Act.put, List.setIfInBounds_toArray, List.set_cons_zero, List.set_cons_succ, i64_w, i32_w]
           rfl
          refine take_ (i := 3) (N := some 34) (v := ?_) (a' := ?_) #[T,T,T,T,F,F] rfl rfl (by kernel_rfl) (fun _ _ _ h => h) (Or.inl ⟨by rfl, ?_⟩) hHeld ?_ ?_; rotate_left
          ·rintro w' ⟨s0, s1, s2, s3, s4, s5, s6, s7⟩; go_simp
           with_reducible rfl
          rotate_left
          ·simp only [Act.put, List.setIfInBounds_toArray, List.set_cons_zero, List.set_cons_succ, i64_w, i32_w]
           rfl
          refine take_ (i := 4) (N := some 35) (v := ?_) (a' := ?_) #[T,T,T,T,T,F] rfl rfl (by kernel_rfl) (fun _ _ _ h => h) (Or.inl ⟨by rfl, ?_⟩) hHeld ?_ ?_; rotate_left
          ·rintro w' ⟨s0, s1, s2, s3, s4, s5, s6, s7⟩; go_simp
           with_reducible rfl
          rotate_left
          ·simp only [Act.put, List.setIfInBounds_toArray, List.set_cons_zero, List.set_cons_succ, i64_w, i32_w]
           rfl
          refine one_ (i := 5) (N := some 36) #[T,T,T,T,T,T] rfl rfl (by kernel_rfl) (by decide) (fun K hK => ?_); refine gz Try.func142 #[.agg #[.int .i64 ((rd_T85 l1 x8_2).f0.f0), .int .i64 ((rd_T85 l1 x8_2).f0.f1), .int .i64 ((rd_T85 l1 x8_2).f1.f0), .int .i64 ((rd_T85 l1 x8_2).f1.f1)], .agg #[.int .i64 a2_0, .int .i64 a2_1, .int .i64 a2_2, .int .i64 a2_3]] ?_
          with_reducible refine (spec_MeetsBox.calls k2 ((rd_T85 l1 x8_2).f0.f0) ((rd_T85 l1 x8_2).f0.f1) ((rd_T85 l1 x8_2).f1.f0) ((rd_T85 l1 x8_2).f1.f1) a2_0 a2_1 a2_2 a2_3 true _ A22.out).mono ?_
          rintro e w26 ⟨rfl, hb⟩; refine ⟨_, rfl, ?_⟩; replace HO_7 := Aside0.mk (rbz HO_7 hb); replace BK274 := Aside0.mk (bbz BK274 hb); replace BK275 := Aside0.mk (bbz BK275 hb); replace HB := Aside0.mk (below_step bzs hb); (try clear hb); (try clear hb2); (try clear hk); (try clear hi); refine hK.out _ _ ⟨bc BK275 0, bc BK275 1, bc BK275 2, bc BK275 3, (xz HB hw284_0 :), (xz HB hw284_1 :), (xz HB hw284_2 :), (xz HB hw284_3 :)⟩ (fun hHeld => ?_); clear hK K; refine nz 36 ?_; refine done_ (by kernel_rfl) ?_; have hnb27 := NB274_275.out; have hnc27 := NB275_274.out; obtain ⟨hcz28_0, hcz28_1, hcz28_2, hcz28_3, hcz28_4, hfz28_0, hfz28_1, hfz28_2, hfz28_3, hfz28_4⟩ := cells5 BK274; (try go_wp2_with (first | ((with_reducible refine gate_builtin (b := .append) (xs := #[.tmp 37, .tmp 42]) rfl ?_); at_builtin; refine Kd.R_append k110 (w0 := w) w.heap.size rfl (.tmp 37) (.tmp 42) 64 110 (.agg #[(.int .i64 0), (.int .i64 0)]) 16 rfl Try.underlying64 info110 rfl (by decide) (by omega) u7 x7_2 (⟨a0_0, x8_2⟩ : S110) [.int .i64 a0_0, .int .i64 x8_2] (fun _ => True) (fun _ => False) rfl rfl ?aP (fun _ hk => hk.elim) ?aF ?aO ?aB ?aS ?aL ?_; (case aP => exact k110_mkM _ _ _ (⟨a0_0, x8_2⟩ : S110)); (case aB => exact bzs); (case aF => exact (fun _ _ => trivial)); (case aO => exact (hr HO_7.out)); (case aS => exact (below_size bzs)); (case aL => have := LMc24.out; omega); intro v287 w29 ho hb hg hat; rw [← Ny286.out] at ho; have n0_ := Aside0.mk (blk_grown (g := gb274) (o := .cells #[.int .i64 a0_0, .int .i64 a0_1, .int .i64 a0_2, .string a0_3, .slice A0_4 l0_4.length c0_4] 29 (0, 0)) (kz BK274) hg (Kd.R_ne HO_7.out BK274.out (by decide))); have n1_ := Aside0.mk (blk_grown (g := gb275) (o := .cells #[.int .i64 a2_0, .int .i64 a2_1, .int .i64 a2_2, .int .i64 a2_3] 98 (0, 0)) (kz BK275) hg (Kd.R_ne HO_7.out BK275.out (by decide))); have n2_ := Aside0.mk (hb); have n3_ := Aside0.mk (ho); clear BK274; clear BK275; clear HB; clear HO_7; have BK274 := n0_; have BK275 := n1_; have HB := n2_; have HO288 := n3_; clear n0_ n1_ n2_ n3_; clear ho hb hg hat)))
          go_roundg k2
          case measure => have := HJ3.out; have := HK2.out; omega
          case rel => exact ⟨(y286), (wrap64 (x8_2 + 1)), rz, H', ⟨by have := HJ3.out; have := HK2.out; omega⟩, ⟨hr HO288.out⟩, ⟨kz BK274⟩, ⟨kz BK275⟩, ⟨bzs⟩⟩
         ·rw [if_neg c24] at H
          exact absurd H (by simp)
        ·replace c23 := Bool.eq_false_iff.mpr c23; subst c23; replace H := iff_ H; have H' := Aside0.mk H; clear H; (try go_wp2); replace HO_7 := Aside0.mk (Kd.R_drew HO_7.out); replace BK274 := Aside0.mk (blk_drew BK274.out); replace BK275 := Aside0.mk (blk_drew BK275.out); replace HB := Aside0.mk (below_drew1 HB.out); have p284 : 0 ≤ (x8_2 : Int) := of_decide_eq_true az; have q284 : x8_2 < (l1.length : Int) := of_decide_eq_true az; obtain ⟨ad284, e284, hx284_0, hx284_1, hx284_2, hx284_3⟩ := at_T85 HR1.out x8_2 p284 q284; have hw284_3 := hx284_3; have hw284_2 := hx284_2; have hw284_1 := hx284_1; have hw284_0 := hx284_0
         cases e284
         replace hx284_0 := xz HB hx284_0; replace hx284_1 := xz HB hx284_1; replace hx284_2 := xz HB hx284_2; replace hx284_3 := xz HB hx284_3; replace p284 := eq_true p284; replace q284 := eq_true q284; refine start_ (n := 6) (S := fun w' => w'.cell? ⟨gb275, 0, none⟩ = some (.int .i64 a2_0) ∧ w'.cell? ⟨gb275, 1, none⟩ = some (.int .i64 a2_1) ∧ w'.cell? ⟨gb275, 2, none⟩ = some (.int .i64 a2_2) ∧ w'.cell? ⟨gb275, 3, none⟩ = some (.int .i64 a2_3) ∧ w'.cell? (ad284.add ((x8_2).toNat * 4)) = some (.int .i64 ((rd_T85 l1 x8_2).f0.f0)) ∧ w'.cell? ⟨(ad284.add ((x8_2).toNat * 4)).block, (ad284.add ((x8_2).toNat * 4)).off + 1, none⟩ = some (.int .i64 ((rd_T85 l1 x8_2).f0.f1)) ∧ w'.cell? ⟨(ad284.add ((x8_2).toNat * 4)).block, (ad284.add ((x8_2).toNat * 4)).off + 2, none⟩ = some (.int .i64 ((rd_T85 l1 x8_2).f1.f0)) ∧ w'.cell? ⟨(ad284.add ((x8_2).toNat * 4)).block, (ad284.add ((x8_2).toNat * 4)).off + 3, none⟩ = some (.int .i64 ((rd_T85 l1 x8_2).f1.f1))) (ds := []) #[F,F,F,F,F,F] (by kernel_rfl) rfl rfl ⟨bc BK275 0, bc BK275 1, bc BK275 2, bc BK275 3, (xz HB hw284_0 :), (xz HB hw284_1 :), (xz HB hw284_2 :), (xz HB hw284_3 :)⟩ (fun hHeld => ?_); generalize wr.drew = w30 at HO_7 BK274 BK275 HB hx284_0 hx284_1 hx284_2 hx284_3 hHeld ⊢; refine pure_ (i := 0) (N := some 31) (v := ?_) (a' := ?_) #[T,F,F,F,F,F] rfl rfl (by kernel_rfl) (fun _ _ _ h => h) (Or.inl ⟨by rfl, ?_⟩) ?_ ?_; rotate_left
         ·intro w'; go_simp
          with_reducible rfl
         rotate_left
         ·simp only [Act.put, List.setIfInBounds_toArray, List.set_cons_zero, List.set_cons_succ, i64_w, i32_w]
          rfl
         refine pure_ (i := 1) (N := some 32) (v := ?_) (a' := ?_) #[T,T,F,F,F,F] rfl rfl (by kernel_rfl) (fun _ _ _ h => h) (Or.inl ⟨by rfl, ?_⟩) ?_ ?_; rotate_left
         ·intro w'; go_simp
          with_reducible rfl
         rotate_left
         ·simp only [Act.put, List.setIfInBounds_toArray, List.set_cons_zero, List.set_cons_succ, i64_w, i32_w]
          rfl
         refine pure_ (i := 2) (N := some 33) (v := ?_) (a' := ?_) #[T,T,T,F,F,F] rfl rfl (by kernel_rfl) (fun _ _ _ h => h) (Or.inl ⟨by rfl, ?_⟩) ?_ ?_; rotate_left
         ·intro w'; go_simp
          with_reducible rfl
         rotate_left
         ·simp only [Act.put, List.setIfInBounds_toArray, List.set_cons_zero, List.set_cons_succ, i64_w, i32_w]
          rfl
         refine take_ (i := 3) (N := some 34) (v := ?_) (a' := ?_) #[T,T,T,T,F,F] rfl rfl (by kernel_rfl) (fun _ _ _ h => h) (Or.inl ⟨by rfl, ?_⟩) hHeld ?_ ?_; rotate_left
         ·rintro w' ⟨s0, s1, s2, s3, s4, s5, s6, s7⟩; go_simp
          with_reducible rfl
         rotate_left
         ·simp only [Act.put, List.setIfInBounds_toArray, List.set_cons_zero, List.set_cons_succ, i64_w, i32_w]
          rfl
         refine take_ (i := 4) (N := some 35) (v := ?_) (a' := ?_) #[T,T,T,T,T,F] rfl rfl (by kernel_rfl) (fun _ _ _ h => h) (Or.inl ⟨by rfl, ?_⟩) hHeld ?_ ?_; rotate_left
         ·rintro w' ⟨s0, s1, s2, s3, s4, s5, s6, s7⟩; go_simp
          with_reducible rfl
         rotate_left
         ·simp only [Act.put, List.setIfInBounds_toArray, List.set_cons_zero, List.set_cons_succ, i64_w, i32_w]
          rfl
         refine one_ (i := 5) (N := some 36) #[T,T,T,T,T,T] rfl rfl (by kernel_rfl) (by decide) (fun K hK => ?_); refine gz Try.func142 #[.agg #[.int .i64 ((rd_T85 l1 x8_2).f0.f0), .int .i64 ((rd_T85 l1 x8_2).f0.f1), .int .i64 ((rd_T85 l1 x8_2).f1.f0), .int .i64 ((rd_T85 l1 x8_2).f1.f1)], .agg #[.int .i64 a2_0, .int .i64 a2_1, .int .i64 a2_2, .int .i64 a2_3]] ?_
         with_reducible refine (spec_MeetsBox.calls k2 ((rd_T85 l1 x8_2).f0.f0) ((rd_T85 l1 x8_2).f0.f1) ((rd_T85 l1 x8_2).f1.f0) ((rd_T85 l1 x8_2).f1.f1) a2_0 a2_1 a2_2 a2_3 false _ A22.out).mono ?_
         rintro e w31 ⟨rfl, hb⟩; refine ⟨_, rfl, ?_⟩; replace HO_7 := Aside0.mk (rbz HO_7 hb); replace BK274 := Aside0.mk (bbz BK274 hb); replace BK275 := Aside0.mk (bbz BK275 hb); replace HB := Aside0.mk (below_step bzs hb); (try clear hb); (try clear hb2); (try clear hk); (try clear hi); refine hK.out _ _ ⟨bc BK275 0, bc BK275 1, bc BK275 2, bc BK275 3, (xz HB hw284_0 :), (xz HB hw284_1 :), (xz HB hw284_2 :), (xz HB hw284_3 :)⟩ (fun hHeld => ?_); clear hK K; refine nz 36 ?_; refine done_ (by kernel_rfl) ?_; (try go_wp2)
         go_roundg k2
         case measure => have := HJ3.out; have := HK2.out; omega
         case rel => exact ⟨(x7_2), (wrap64 (x8_2 + 1)), rz, H', ⟨by have := HJ3.out; have := HK2.out; omega⟩, ⟨hr HO_7.out⟩, ⟨kz BK274⟩, ⟨kz BK275⟩, ⟨bzs⟩⟩
       ·rw [if_neg c21] at H
        exact absurd H (by simp)
      ·rw [if_neg c20] at H; have c20b0 := decide_eq_false c20; clear c20; obtain rfl := Option.some.inj H; go_wp2; go_ret
       exact ⟨_, ez, hr HO_7.out, bzs⟩

end Go.Proofs.Ytdfehjfmihokpaa.PFnExactTouchedTiles
