-- Written by a program of this session's: the kit's print, turned (turnprint.py): functions, and that Go comes to just their answers.
import Derived.Test.YtdfehjfmihokpaaZ
import Derived.Test.YtdfehjfmihokpaaPFnExactAllPiecesx0
import Derived.Test.YtdfehjfmihokpaaPFnExactAllPiecesx20
namespace Go.Proofs.Ytdfehjfmihokpaa.PFnExactAllPieces
open Go.RowKit Go.Proofs.YtdfehjfmihokpaaW.PrintWords Go.Proofs.YtdfehjfmihokpaaW.PrintLast Go.Proofs.YtdfehjfmihokpaaW.PrintMore Go.Proofs.YtdfehjfmihokpaaGeo Go.Proofs.YtdfehjfmihokpaaHand Go.Proofs.YtdfehjfmihokpaaMeet Go.Proofs.YtdfehjfmihokpaaQuiet Go.Proofs.YtdfehjfmihokpaaZ
attribute [local go_sem] max2_int min2_int max_two min_two max_three min_three max_four min_four   -- for this text's walks alone
set_option linter.unusedVariables false
set_option linter.unusedSimpArgs false

/-! ### impl_SegmentsOf: function 126 -/
def impl_SegmentsOf.l0 : Nat → List (S82) → List (S85) → Int → Option ((List (S85)))
 | 0, _, _, _ => none
 | k + 1, x0, x3, x4 => if x4 < (x0.length : Int) then (if 0 ≤ (wrap64 (x4 - 1)) then (if (wrap64 (x4 - 1)) < (x0.length : Int) then (if 0 ≤ x4 then (if x3.length < 4398046511104 then (impl_SegmentsOf.l0 k x0 (x3 ++ [(⟨(⟨(rd_T82 x0 (wrap64 (x4 - 1))).f0, (rd_T82 x0 (wrap64 (x4 - 1))).f1⟩ : S82), (⟨(rd_T82 x0 x4).f0, (rd_T82 x0 x4).f1⟩ : S82)⟩ : S85)]) (wrap64 (x4 + 1))) else (none)) else (none)) else (none)) else (none)) else (some x3)
def impl_SegmentsOf.f (k : Nat) (l0 : List (S82)) : Option ((List (S85))) := (some (([] : List (S85)) : List (S85))).bind fun y317 => ((impl_IsLine.f k l0).bind fun t320 => (if t320 = true then (impl_SegmentsOf.l0 k l0 y317 1) else (some y317)))
theorem impl_SegmentsOf.mono_l : ∀ k, (∀ y0 y1 y2, LeO (impl_SegmentsOf.l0 k y0 y1 y2) (impl_SegmentsOf.l0 (k + 1) y0 y1 y2))
 | 0 => fun _ _ _ r h => by simp [impl_SegmentsOf.l0] at h
 | k + 1 => by
  have ih0 := impl_SegmentsOf.mono_l k
  ·intro y0 y1 y2
   unfold impl_SegmentsOf.l0
   repeat' first | (with_reducible first | exact ih0 _ _ _ | exact impl_IsLine.mono _ _ | exact LeO.refl _ | exact LeO.none _ | refine LeO.ite ?_ ?_ | refine LeO.bind ?_ (fun _ => ?_)) | exact ih0 _ _ _ | exact impl_IsLine.mono _ _ | exact LeO.none _ | refine LeO.ite ?_ ?_ | refine LeO.bind ?_ (fun _ => ?_)
theorem impl_SegmentsOf.mono : ∀ a0 k, LeO (impl_SegmentsOf.f k a0) (impl_SegmentsOf.f (k + 1) a0) := by
 intro a0 k; have ih0 := impl_SegmentsOf.mono_l k
 unfold impl_SegmentsOf.f
 repeat' first | (with_reducible first | exact ih0 _ _ _ | exact impl_IsLine.mono _ _ | exact LeO.refl _ | exact LeO.none _ | refine LeO.ite ?_ ?_ | refine LeO.bind ?_ (fun _ => ?_)) | exact ih0 _ _ _ | exact impl_IsLine.mono _ _ | exact LeO.none _ | refine LeO.ite ?_ ?_ | refine LeO.bind ?_ (fun _ => ?_)
def impl_SegmentsOf.T7 : Bool × List (List Nat × List Nat) := (true, [([], []), ([], []), ([], []), ([2], [2]), ([1, 3], [1, 3]), ([4], [4]), ([], []), ([], []), ([6, 7], [6, 7]), ([8], [8]), ([5, 9], [5, 9]), ([10], [10]), ([0, 11], [0, 11]), ([12, 12, 0, 1, 2, 3, 4, 5, 6, 7, 8, 9, 10, 11, 12], [0, 12])])
def impl_SegmentsOf.B7 : List Nat := [0, 0, 0, 4, 14, 30, 0, 0, 192, 448, 1022, 2046, 4095, 8191]
theorem impl_SegmentsOf.tab7 : rtab .any (opsOf Try.f126 7) = impl_SegmentsOf.T7 := by kernel_rfl
theorem impl_SegmentsOf.bits7 : waitsOk impl_SegmentsOf.T7.2 impl_SegmentsOf.B7 = true := by kernel_rfl
set_option maxHeartbeats 8000000 in
set_option maxRecDepth 100000 in
theorem impl_SegmentsOf.calls (k : Nat) (A0 : Option Addr) (c0 : Nat) (l0 : List (S82)) (r : List (S85)) (w : World) (hr0 : Kd.C k82 w A0 l0.length l0) (hc0 : l0.length ≤ c0) (h : impl_SegmentsOf.f k l0 = some r) :
  Calls Try.prog 126 #[.slice A0 l0.length c0] w fun e w' => ∃ v0_ : Value, e = .returned (v0_) ∧ Kd.R k85 85 w' w.heap.size (fun _ => True) v0_ r ∧ Below w.heap.size w w' := by
 have hu82 := Try.underlying82; have hu85 := Try.underlying85; have HR0 := Aside0.mk hr0; have HC0 := Aside0.mk hc0; clear hr0 hc0; have HB := Aside0.mk (Below.refl w.heap.size w); have H : ((some (([] : List (S85)) : List (S85))).bind fun y317 => ((impl_IsLine.f k l0).bind fun t320 => (if t320 = true then (impl_SegmentsOf.l0 k l0 y317 1) else (some y317)))) = some r := h; clear h; obtain ⟨y317, hy317⟩ : ∃ y_ : List (S85), y_ = (([] : List (S85))) := ⟨_, rfl⟩
 replace H : ((impl_IsLine.f k l0).bind fun t320 => (if t320 = true then (impl_SegmentsOf.l0 k l0 y317 1) else (some y317))) = some r := by first | (rw [hy317]; with_reducible exact H) | (have H2_ := (Option.bind_some _ _).symm.trans H; rw [hy317]; with_reducible exact H2_) | (have H2_ := (Option.bind_some _ _).symm.trans H; with_reducible exact H2_) | with_reducible exact H | (rw [hy317]; exact H) | exact H
 have Ny317 := Aside0.mk hy317; clear hy317; replace H := Option.bind_eq_some_iff.mp H; obtain ⟨t320, A20, H⟩ := H; have A2 := Aside0.mk A20; clear A20
 by_cases c3 : t320 = true
 ·subst c3; replace H := ift H; have H' := Aside0.mk H; clear H
  go_enter Try.func126, Try.ntmps126; go_wp2_with (first | ((with_reducible refine gate_dst (N := 5) rfl ?_); refine Kd.R_lit k85 _ 85 ?hg (N := 5) ?hd (xs := ([] : List (S85))) (inner := []) (ok := fun _ => True) (okp := fun _ => True) ?hr ?hp (fun _ hk => hk) trivial (Below.refl _ _) (Nat.le_refl _) (by simp) ?_; (case hd => rfl); (case hg => rfl); (case hr => first | (go_simp; done) | (go_simp; rfl)); (case hp => exact (Reps.none _ _)); intro v318 w4 ho5 hb hg_ hnew_; clear hg_ hnew_; (first | rw [← Ny317.out] at ho5 | (simp only [Int.reduceToNat] at ho5; rw [← Ny317.out] at ho5)); have HO319 := Aside0.mk (Kd.R_lower ho5 (below_size bz)); replace HB := Aside0.mk (below_step bz hb); clear hb ho5) | ((with_reducible refine gt (some 7) rfl ?_); refine gc Try.func111 (impl_IsLine.calls k _ _ l0 true _ cz0 HC0.out A2.out) ?_; rintro e w6 ⟨rfl, hb⟩; refine ⟨_, rfl, ?_⟩; replace HO319 := Aside0.mk (rbz HO319 hb); replace HB := Aside0.mk (below_step bz hb); (try clear hb)))
  go_loopg [3, 4] k (fun kq v3 v4 w' => ∃ (x3_1 : List (S85)) (x4_1 : Int), v4 = .int .i64 x4_1 ∧ Aside0 (impl_SegmentsOf.l0 kq l0 x3_1 x4_1 = some r) ∧ Aside0 (kq ≤ k) ∧ Aside0 (Kd.R k85 85 w' w.heap.size (fun _ => True) v3 x3_1) ∧ Aside0 (Below w.heap.size w w'))
  case atStart => exact ⟨(y317), (1), rz, H', ⟨Nat.le_refl _⟩, ⟨hr HO319.out⟩, ⟨bz⟩⟩
  case round =>
   clear H'; (try clear c1); (try clear p2); (try clear c3); obtain ⟨x3_1, x4_1, rfl, HA, HK1, HO_3, HB⟩ := hrel
   cases gk with
   | zero => exact absurd HA.out (by simp [impl_SegmentsOf.l0])
   | succ k1 =>
    have H := HA.out; clear HA; simp only [impl_SegmentsOf.l0] at H
    by_cases c7 : x4_1 < (l0.length : Int)
    ·rw [if_pos c7] at H; have c7b0 := decide_eq_true c7; clear c7; obtain ⟨ji8, hji8⟩ : ∃ j_ : Int, (wrap64 (x4_1 - 1)) = j_ := ⟨_, rfl⟩
     replace H : (if 0 ≤ (ji8) then (if (ji8) < (l0.length : Int) then (if 0 ≤ x4_1 then (if x3_1.length < 4398046511104 then (impl_SegmentsOf.l0 k1 l0 (x3_1 ++ [(⟨(⟨(rd_T82 l0 (ji8)).f0, (rd_T82 l0 (ji8)).f1⟩ : S82), (⟨(rd_T82 l0 x4_1).f0, (rd_T82 l0 x4_1).f1⟩ : S82)⟩ : S85)]) (wrap64 (x4_1 + 1))) else (none)) else (none)) else (none)) else (none)) = some r := by first | (rw [hji8] at H; exact H) | (simp only [hji8] at H ⊢; exact H)
     have hji8w : (IntKind.i64.wrap (x4_1 - 1)) = ji8 := (i64_w _).trans hji8
     by_cases c9 : 0 ≤ (ji8)
     ·rw [if_pos c9] at H; have c9b0 := decide_eq_true c9; clear c9
      by_cases c10 : (ji8) < (l0.length : Int)
      ·rw [if_pos c10] at H; have c10b0 := decide_eq_true c10; clear c10
       by_cases c11 : 0 ≤ x4_1
       ·rw [if_pos c11] at H; have c11b0 := decide_eq_true c11; clear c11
        by_cases c12 : x3_1.length < 4398046511104
        ·rw [if_pos c12] at H; have LMc12 := Aside0.mk c12; clear c12; obtain ⟨y323, hy323⟩ : ∃ y_ : List (S85), y_ = (x3_1 ++ [(⟨(⟨(rd_T82 l0 (ji8)).f0, (rd_T82 l0 (ji8)).f1⟩ : S82), (⟨(rd_T82 l0 x4_1).f0, (rd_T82 l0 x4_1).f1⟩ : S82)⟩ : S85)]) := ⟨_, rfl⟩
         replace H : (impl_SegmentsOf.l0 k1 l0 y323 (wrap64 (x4_1 + 1))) = some r := by first | (rw [hy323]; with_reducible exact H) | (have H2_ := (Option.bind_some _ _).symm.trans H; rw [hy323]; with_reducible exact H2_) | (have H2_ := (Option.bind_some _ _).symm.trans H; with_reducible exact H2_) | with_reducible exact H | (rw [hy323]; exact H) | exact H
         have Ny323 := Aside0.mk hy323; clear hy323; have H' := Aside0.mk H; clear H; (try go_wp2); replace HO_3 := Aside0.mk (Kd.R_drew HO_3.out); replace HB := Aside0.mk (below_drew1 HB.out); have p321 : 0 ≤ ((ji8) : Int) := of_decide_eq_true az; have q321 : (ji8) < (l0.length : Int) := of_decide_eq_true az; obtain ⟨ad321, e321, hx321_0, hx321_1⟩ := at_T82 HR0.out (ji8) p321 q321; have hw321_1 := hx321_1; have hw321_0 := hx321_0
         cases e321
         replace hx321_0 := xz HB hx321_0; replace hx321_1 := xz HB hx321_1; replace p321 := eq_true p321; replace q321 := eq_true q321; have p322 : 0 ≤ (x4_1 : Int) := of_decide_eq_true az; have q322 : x4_1 < (l0.length : Int) := of_decide_eq_true az; obtain ⟨ad322, e322, hx322_0, hx322_1⟩ := at_T82 HR0.out x4_1 p322 q322; have hw322_1 := hx322_1; have hw322_0 := hx322_0; obtain rfl : ad321 = ad322 := (by injection e322)
         replace hx322_0 := xz HB hx322_0; replace hx322_1 := xz HB hx322_1; replace p322 := eq_true p322; replace q322 := eq_true q322; refine start_ (n := 14) (S := fun w' => w'.cell? (ad321.add (((ji8)).toNat * 2)) = some (.int .i64 ((rd_T82 l0 (ji8)).f0)) ∧ w'.cell? ⟨(ad321.add (((ji8)).toNat * 2)).block, (ad321.add (((ji8)).toNat * 2)).off + 1, none⟩ = some (.int .i64 ((rd_T82 l0 (ji8)).f1)) ∧ w'.cell? (ad321.add ((x4_1).toNat * 2)) = some (.int .i64 ((rd_T82 l0 x4_1).f0)) ∧ w'.cell? ⟨(ad321.add ((x4_1).toNat * 2)).block, (ad321.add ((x4_1).toNat * 2)).off + 1, none⟩ = some (.int .i64 ((rd_T82 l0 x4_1).f1))) (ds := []) #[F,F,F,F,F,F,F,F,F,F,F,F,F,F] (by kernel_rfl) rfl rfl ⟨(xz HB hw321_0 :), (xz HB hw321_1 :), (xz HB hw322_0 :), (xz HB hw322_1 :)⟩ (fun hHeld => ?_); refine with_tabW impl_SegmentsOf.tab7 impl_SegmentsOf.bits7 (fun HT_ HW_ => ?_); generalize wr.drew = w13 at HO_3 HB hx321_0 hx321_1 hx322_0 hx322_1 hHeld ⊢; refine pz HT_ 0 16 ?_; refine pz HT_ 1 17 ?_; refine pz HT_ 2 18 ?_; refine pz HT_ 3 19 ?_; refine pz HT_ 4 20 ?_; refine pz HT_ 6 22 ?_; refine pz HT_ 7 23 ?_; refine pz HT_ 8 24 ?_; refine tz4 HT_ HW_ hHeld 5 21 ?_; refine tz4 HT_ HW_ hHeld 9 25 ?_; refine pz HT_ 10 26 ?_; refine oz HT_ 11 (some 27) (fun K hK => ?_); refine value_ (w1 := ?_) (v := ?_) (by rfl) rfl ?_ ?_; rotate_left 2
         ·go_simp
          constructor
          ·rfl
          ·rfl
         refine hK.out _ _ ⟨(World.cell?_alloc_lt _ _ _ (World.block_lt_of_cell? _ _ ((xz HB hw321_0 :)))).trans ((xz HB hw321_0 :)), (World.cell?_alloc_lt _ _ _ (World.block_lt_of_cell? _ _ ((xz HB hw321_1 :)))).trans ((xz HB hw321_1 :)), (World.cell?_alloc_lt _ _ _ (World.block_lt_of_cell? _ _ ((xz HB hw322_0 :)))).trans ((xz HB hw322_0 :)), (World.cell?_alloc_lt _ _ _ (World.block_lt_of_cell? _ _ ((xz HB hw322_1 :)))).trans ((xz HB hw322_1 :))⟩ (fun hHeld => ?_); clear hK K; refine nz 27 ?_; refine oz HT_ 12 (some 28) (fun K hK => ?_); refine Kd.R_append_step k85 (w0 := w) w.heap.size (by rfl) (.tmp 16) (.tmp 27) 78 85 (.agg #[(.int .i64 0), (.int .i64 0), (.int .i64 0), (.int .i64 0)]) 32 rfl Try.underlying78 info85 rfl (by decide) (by omega) u3 x3_1 (⟨(⟨(rd_T82 l0 (ji8)).f0, (rd_T82 l0 (ji8)).f1⟩ : S82), (⟨(rd_T82 l0 x4_1).f0, (rd_T82 l0 x4_1).f1⟩ : S82)⟩ : S85) [.int .i64 ((rd_T82 l0 (ji8)).f0), .int .i64 ((rd_T82 l0 (ji8)).f1), .int .i64 ((rd_T82 l0 x4_1).f0), .int .i64 ((rd_T82 l0 x4_1).f1)] (fun _ => True) (fun _ => False) rfl rfl ?aP (fun _ hk => hk.elim) ?aF ?aO ?aB ?aS ?aL ?_
         (case aP => exact k85_mkM _ _ _ (⟨(⟨(rd_T82 l0 (ji8)).f0, (rd_T82 l0 (ji8)).f1⟩ : S82), (⟨(rd_T82 l0 x4_1).f0, (rd_T82 l0 x4_1).f1⟩ : S82)⟩ : S85))
         (case aB => exact bz)
         (case aF => exact (fun _ _ => trivial))
         (case aO => exact (hr HO_3.out))
         (case aS => exact (below_size bz))
         (case aL => have := LMc12.out; omega)
         intro v324 w14 ho hb hg hat; rw [← Ny323.out] at ho; have n0_ := Aside0.mk (hb); have n1_ := Aside0.mk (ho); clear HB; clear HO_3; have HB := n0_; have HO325 := n1_; clear n0_ n1_; clear ho hb hg hat; refine hK.out _ _ ⟨(xz HB hw321_0 :), (xz HB hw321_1 :), (xz HB hw322_0 :), (xz HB hw322_1 :)⟩ (fun hHeld => ?_); clear hK K; refine nz 28 ?_; refine pz HT_ 13 3 ?_; refine dz HT_ ?_; (try go_wp2)
         go_roundg k1
         case measure => have := HK1.out; omega
         case rel => exact ⟨(y323), (wrap64 (x4_1 + 1)), rz, H', ⟨by have := HK1.out; omega⟩, ⟨hr HO325.out⟩, ⟨bz⟩⟩
        ·rw [if_neg c12] at H
         exact absurd H (by simp)
       ·rw [if_neg c11] at H
        exact absurd H (by simp)
      ·rw [if_neg c10] at H
       exact absurd H (by simp)
     ·rw [if_neg c9] at H
      exact absurd H (by simp)
    ·rw [if_neg c7] at H; have c7b0 := decide_eq_false c7; clear c7; obtain rfl := Option.some.inj H; go_wp2; go_ret
     exact ⟨_, ez, hr HO_3.out, bz⟩
 ·replace c3 := Bool.eq_false_iff.mpr c3; subst c3; replace H := iff_ H; obtain rfl := Option.some.inj H
  go_enter Try.func126, Try.ntmps126; go_wp2_with (first | ((with_reducible refine gate_dst (N := 5) rfl ?_); refine Kd.R_lit k85 _ 85 ?hg (N := 5) ?hd (xs := ([] : List (S85))) (inner := []) (ok := fun _ => True) (okp := fun _ => True) ?hr ?hp (fun _ hk => hk) trivial (Below.refl _ _) (Nat.le_refl _) (by simp) ?_; (case hd => rfl); (case hg => rfl); (case hr => first | (go_simp; done) | (go_simp; rfl)); (case hp => exact (Reps.none _ _)); intro v318 w15 ho16 hb hg_ hnew_; clear hg_ hnew_; (first | rw [← Ny317.out] at ho16 | (simp only [Int.reduceToNat] at ho16; rw [← Ny317.out] at ho16)); have HO319 := Aside0.mk (Kd.R_lower ho16 (below_size bz)); replace HB := Aside0.mk (below_step bz hb); clear hb ho16) | ((with_reducible refine gt (some 7) rfl ?_); refine gc Try.func111 (impl_IsLine.calls k _ _ l0 false _ cz0 HC0.out A2.out) ?_; rintro e w17 ⟨rfl, hb⟩; refine ⟨_, rfl, ?_⟩; replace HO319 := Aside0.mk (rbz HO319 hb); replace HB := Aside0.mk (below_step bz hb); (try clear hb))); go_ret
  exact ⟨_, ez, hr HO319.out, bz⟩

end Go.Proofs.Ytdfehjfmihokpaa.PFnExactAllPieces
