-- Written by a program of this session's: the kit's print, turned (turnprint.py): functions, and that Go comes to just their answers.
import Derived.Test.YtdfehjfmihokpaaZ
import Derived.Test.YtdfehjfmihokpaaPFnExactPieceDigestx0
namespace Go.Proofs.Ytdfehjfmihokpaa.PFnExactPieceDigest
open Go.RowKit Go.Proofs.YtdfehjfmihokpaaW.PrintWords Go.Proofs.YtdfehjfmihokpaaW.PrintLast Go.Proofs.YtdfehjfmihokpaaW.PrintMore Go.Proofs.YtdfehjfmihokpaaGeo Go.Proofs.YtdfehjfmihokpaaHand Go.Proofs.YtdfehjfmihokpaaZ
attribute [local go_sem] max2_int min2_int max_two min_two max_three min_three max_four min_four   -- for this text's walks alone
set_option linter.unusedVariables false
set_option linter.unusedSimpArgs false

/-! ### spec_l7Segments: function 147 -/
def spec_l7Segments.l0 : Nat → List (S82) → List (S85) → Int → Option ((List (S85)))
 | 0, _, _, _ => none
 | k + 1, x0, x3, x4 => if x4 < (x0.length : Int) then (if 0 ≤ x4 then (if (x0.length : Int) = 0 then (none) else (if 0 ≤ (Int.tmod (wrap64 (x4 + 1)) (x0.length : Int)) then (if (Int.tmod (wrap64 (x4 + 1)) (x0.length : Int)) < (x0.length : Int) then (if x3.length < 4398046511104 then (spec_l7Segments.l0 k x0 (x3 ++ [(⟨(⟨(rd_T82 x0 x4).f0, (rd_T82 x0 x4).f1⟩ : S82), (⟨(rd_T82 x0 (Int.tmod (wrap64 (x4 + 1)) (x0.length : Int))).f0, (rd_T82 x0 (Int.tmod (wrap64 (x4 + 1)) (x0.length : Int))).f1⟩ : S82)⟩ : S85)]) (wrap64 (x4 + 1))) else (none)) else (none)) else (none))) else (none)) else (some x3)
def spec_l7Segments.f (k : Nat) (l0 : List (S82)) : Option ((List (S85))) := spec_l7Segments.l0 k l0 (([] : List (S85))) 0
theorem spec_l7Segments.mono_l : ∀ k, (∀ y0 y1 y2, LeO (spec_l7Segments.l0 k y0 y1 y2) (spec_l7Segments.l0 (k + 1) y0 y1 y2))
 | 0 => fun _ _ _ r h => by simp [spec_l7Segments.l0] at h
 | k + 1 => by
  have ih0 := spec_l7Segments.mono_l k
  ·intro y0 y1 y2
   unfold spec_l7Segments.l0
   repeat' first | (with_reducible first | exact ih0 _ _ _ | exact LeO.refl _ | exact LeO.none _ | refine LeO.ite ?_ ?_ | refine LeO.bind ?_ (fun _ => ?_)) | exact ih0 _ _ _ | exact LeO.none _ | refine LeO.ite ?_ ?_ | refine LeO.bind ?_ (fun _ => ?_)
theorem spec_l7Segments.mono : ∀ a0 k, LeO (spec_l7Segments.f k a0) (spec_l7Segments.f (k + 1) a0) := by
 intro a0 k; have ih0 := spec_l7Segments.mono_l k
 unfold spec_l7Segments.f
 repeat' first | (with_reducible first | exact ih0 _ _ _ | exact LeO.refl _ | exact LeO.none _ | refine LeO.ite ?_ ?_ | refine LeO.bind ?_ (fun _ => ?_)) | exact ih0 _ _ _ | exact LeO.none _ | refine LeO.ite ?_ ?_ | refine LeO.bind ?_ (fun _ => ?_)
def spec_l7Segments.T5 : Bool × List (List Nat × List Nat) := (true, [([], []), ([], []), ([], []), ([1, 2], [1, 2]), ([3], [3]), ([], []), ([], []), ([6], [6]), ([], []), ([8], [8]), ([7, 9], [7, 9]), ([5, 10], [5, 10]), ([11], [11]), ([4, 12], [4, 12]), ([13], [13]), ([0, 14], [0, 14]), ([15, 15, 0, 1, 2, 3, 4, 5, 6, 7, 8, 9, 10, 11, 12, 13, 14, 15], [0, 15])])
def spec_l7Segments.B5 : List Nat := [0, 0, 0, 6, 14, 0, 0, 64, 0, 256, 960, 2016, 4064, 8190, 16382, 32767, 65535]
theorem spec_l7Segments.tab5 : rtab .any (opsOf Try.f147 5) = spec_l7Segments.T5 := by kernel_rfl
theorem spec_l7Segments.bits5 : waitsOk spec_l7Segments.T5.2 spec_l7Segments.B5 = true := by kernel_rfl
set_option maxHeartbeats 8000000 in
set_option maxRecDepth 100000 in
theorem spec_l7Segments.calls (k : Nat) (A0 : Option Addr) (c0 : Nat) (l0 : List (S82)) (r : List (S85)) (w : World) (hr0 : Kd.C k82 w A0 l0.length l0) (hc0 : l0.length ≤ c0) (h : spec_l7Segments.f k l0 = some r) :
  Calls Try.prog 147 #[.slice A0 l0.length c0] w fun e w' => ∃ v0_ : Value, e = .returned (v0_) ∧ Kd.R k85 85 w' w.heap.size (fun _ => True) v0_ r ∧ Below w.heap.size w w' := by
 have hu82 := Try.underlying82; have hu85 := Try.underlying85; have HR0 := Aside0.mk hr0; have HC0 := Aside0.mk hc0; clear hr0 hc0; have HB := Aside0.mk (Below.refl w.heap.size w); have H : (spec_l7Segments.l0 k l0 (([] : List (S85))) 0) = some r := h; clear h; obtain ⟨y175, hy175⟩ : ∃ y_ : List (S85), y_ = (([] : List (S85))) := ⟨_, rfl⟩
 replace H : (spec_l7Segments.l0 k l0 y175 0) = some r := by first | (rw [hy175]; with_reducible exact H) | (have H2_ := (Option.bind_some _ _).symm.trans H; rw [hy175]; with_reducible exact H2_) | (have H2_ := (Option.bind_some _ _).symm.trans H; with_reducible exact H2_) | with_reducible exact H | (rw [hy175]; exact H) | exact H
 have Ny175 := Aside0.mk hy175; clear hy175; have H' := Aside0.mk H; clear H
 go_enter Try.func147, Try.ntmps147; go_wp2_with (first | ((with_reducible refine gate_dst (N := 5) rfl ?_); refine Kd.R_lit k85 _ 85 ?hg (N := 5) ?hd (xs := ([] : List (S85))) (inner := []) (ok := fun _ => True) (okp := fun _ => True) ?hr ?hp (fun _ hk => hk) trivial (Below.refl _ _) (Nat.le_refl _) (by simp) ?_; (case hd => rfl); (case hg => rfl); (case hr => first | (go_simp; done) | (go_simp; rfl)); (case hp => exact (Reps.none _ _)); intro v176 w2 ho3 hb hg_ hnew_; clear hg_ hnew_; (first | rw [← Ny175.out] at ho3 | (simp only [Int.reduceToNat] at ho3; rw [← Ny175.out] at ho3)); have HO177 := Aside0.mk (Kd.R_lower ho3 (below_size bz)); replace HB := Aside0.mk (below_step bz hb); clear hb ho3))
 go_loopg [3, 4] k (fun kq v3 v4 w' => ∃ (x3_1 : List (S85)) (x4_1 : Int), v4 = .int .i64 x4_1 ∧ Aside0 (spec_l7Segments.l0 kq l0 x3_1 x4_1 = some r) ∧ Aside0 (kq ≤ k) ∧ Aside0 (Kd.R k85 85 w' w.heap.size (fun _ => True) v3 x3_1) ∧ Aside0 (Below w.heap.size w w'))
 case atStart => exact ⟨(y175), (0), rz, H', ⟨Nat.le_refl _⟩, ⟨hr HO177.out⟩, ⟨bz⟩⟩
 case round =>
  clear H'; (try clear c1); (try clear p2); obtain ⟨x3_1, x4_1, rfl, HA, HK1, HO_3, HB⟩ := hrel
  cases gk with
  | zero => exact absurd HA.out (by simp [spec_l7Segments.l0])
  | succ k1 =>
   have H := HA.out; clear HA; simp only [spec_l7Segments.l0] at H
   by_cases c4 : x4_1 < (l0.length : Int)
   ·rw [if_pos c4] at H; have c4b0 := decide_eq_true c4; clear c4
    by_cases c5 : 0 ≤ x4_1
    ·rw [if_pos c5] at H; have c5b0 := decide_eq_true c5; clear c5
     by_cases c6 : (l0.length : Int) = 0
     ·rw [if_pos c6] at H
      exact absurd H (by simp)
     ·rw [if_neg c6] at H; have c6b0 : ((l0.length : Int) == 0) = false := beq_eq_false_iff_ne.mpr c6; have c6b1 : ((l0.length : Int) != 0) = true := bne_iff_ne.mpr c6; have c6b2 : ¬ (l0 = []) := fun h_ => c6 (by rw [h_]; rfl)
      obtain ⟨ji7, hji7⟩ : ∃ j_ : Int, (Int.tmod (wrap64 (x4_1 + 1)) (l0.length : Int)) = j_ := ⟨_, rfl⟩
      replace H : (if 0 ≤ (ji7) then (if (ji7) < (l0.length : Int) then (if x3_1.length < 4398046511104 then (spec_l7Segments.l0 k1 l0 (x3_1 ++ [(⟨(⟨(rd_T82 l0 x4_1).f0, (rd_T82 l0 x4_1).f1⟩ : S82), (⟨(rd_T82 l0 (ji7)).f0, (rd_T82 l0 (ji7)).f1⟩ : S82)⟩ : S85)]) (wrap64 (x4_1 + 1))) else (none)) else (none)) else (none)) = some r := by first | (rw [hji7] at H; exact H) | (simp only [hji7] at H ⊢; exact H)
      by_cases c8 : 0 ≤ (ji7)
      ·rw [if_pos c8] at H; have c8b0 := decide_eq_true c8; clear c8
       by_cases c9 : (ji7) < (l0.length : Int)
       ·rw [if_pos c9] at H; have c9b0 := decide_eq_true c9; clear c9
        by_cases c10 : x3_1.length < 4398046511104
        ·rw [if_pos c10] at H; have LMc10 := Aside0.mk c10; clear c10; obtain ⟨y180, hy180⟩ : ∃ y_ : List (S85), y_ = (x3_1 ++ [(⟨(⟨(rd_T82 l0 x4_1).f0, (rd_T82 l0 x4_1).f1⟩ : S82), (⟨(rd_T82 l0 (ji7)).f0, (rd_T82 l0 (ji7)).f1⟩ : S82)⟩ : S85)]) := ⟨_, rfl⟩
         replace H : (spec_l7Segments.l0 k1 l0 y180 (wrap64 (x4_1 + 1))) = some r := by first | (rw [hy180]; with_reducible exact H) | (have H2_ := (Option.bind_some _ _).symm.trans H; rw [hy180]; with_reducible exact H2_) | (have H2_ := (Option.bind_some _ _).symm.trans H; with_reducible exact H2_) | with_reducible exact H | (rw [hy180]; exact H) | exact H
         have Ny180 := Aside0.mk hy180; clear hy180; have H' := Aside0.mk H; clear H; (try go_wp2); replace HO_3 := Aside0.mk (Kd.R_drew HO_3.out); replace HB := Aside0.mk (below_drew1 HB.out); have p178 : 0 ≤ (x4_1 : Int) := of_decide_eq_true az; have q178 : x4_1 < (l0.length : Int) := of_decide_eq_true az; obtain ⟨ad178, e178, hx178_0, hx178_1⟩ := at_T82 HR0.out x4_1 p178 q178; have hw178_1 := hx178_1; have hw178_0 := hx178_0
         cases e178
         replace hx178_0 := xz HB hx178_0; replace hx178_1 := xz HB hx178_1; replace p178 := eq_true p178; replace q178 := eq_true q178; have p179 : 0 ≤ ((ji7) : Int) := of_decide_eq_true az; have q179 : (ji7) < (l0.length : Int) := of_decide_eq_true az; obtain ⟨ad179, e179, hx179_0, hx179_1⟩ := at_T82 HR0.out (ji7) p179 q179; have hw179_1 := hx179_1; have hw179_0 := hx179_0; obtain rfl : ad178 = ad179 := (by injection e179)
         replace hx179_0 := xz HB hx179_0; replace hx179_1 := xz HB hx179_1; replace p179 := eq_true p179; replace q179 := eq_true q179; refine start_ (n := 17) (S := fun w' => w'.cell? (ad178.add ((x4_1).toNat * 2)) = some (.int .i64 ((rd_T82 l0 x4_1).f0)) ∧ w'.cell? ⟨(ad178.add ((x4_1).toNat * 2)).block, (ad178.add ((x4_1).toNat * 2)).off + 1, none⟩ = some (.int .i64 ((rd_T82 l0 x4_1).f1)) ∧ w'.cell? (ad178.add (((ji7)).toNat * 2)) = some (.int .i64 ((rd_T82 l0 (ji7)).f0)) ∧ w'.cell? ⟨(ad178.add (((ji7)).toNat * 2)).block, (ad178.add (((ji7)).toNat * 2)).off + 1, none⟩ = some (.int .i64 ((rd_T82 l0 (ji7)).f1))) (ds := []) #[F,F,F,F,F,F,F,F,F,F,F,F,F,F,F,F,F] (by kernel_rfl) rfl rfl ⟨(xz HB hw178_0 :), (xz HB hw178_1 :), (xz HB hw179_0 :), (xz HB hw179_1 :)⟩ (fun hHeld => ?_); refine with_tabW spec_l7Segments.tab5 spec_l7Segments.bits5 (fun HT_ HW_ => ?_); generalize wr.drew = w11 at HO_3 HB hx178_0 hx178_1 hx179_0 hx179_1 hHeld ⊢; refine pz HT_ 0 12 ?_; refine pz HT_ 1 13 ?_; refine pz HT_ 2 14 ?_; refine pz HT_ 3 15 ?_; refine pz HT_ 5 17 ?_; refine pz HT_ 6 18 ?_; refine pz HT_ 7 19 ?_; refine pz HT_ 8 20 ?_; refine pz HT_ 9 21 ?_; refine pz HT_ 10 22 ?_; refine pz HT_ 11 23 ?_; refine tz4 HT_ HW_ hHeld 4 16 ?_; refine tz4 HT_ HW_ hHeld 12 24 ?_; refine pz HT_ 13 25 ?_; refine oz HT_ 14 (some 26) (fun K hK => ?_); refine value_ (w1 := ?_) (v := ?_) (by rfl) rfl ?_ ?_; rotate_left 2
         ·go_simp
          constructor
          ·rfl
          ·rfl
         refine hK.out _ _ ⟨(World.cell?_alloc_lt _ _ _ (World.block_lt_of_cell? _ _ ((xz HB hw178_0 :)))).trans ((xz HB hw178_0 :)), (World.cell?_alloc_lt _ _ _ (World.block_lt_of_cell? _ _ ((xz HB hw178_1 :)))).trans ((xz HB hw178_1 :)), (World.cell?_alloc_lt _ _ _ (World.block_lt_of_cell? _ _ ((xz HB hw179_0 :)))).trans ((xz HB hw179_0 :)), (World.cell?_alloc_lt _ _ _ (World.block_lt_of_cell? _ _ ((xz HB hw179_1 :)))).trans ((xz HB hw179_1 :))⟩ (fun hHeld => ?_); clear hK K; refine nz 26 ?_; refine oz HT_ 15 (some 27) (fun K hK => ?_); refine Kd.R_append_step k85 (w0 := w) w.heap.size (by rfl) (.tmp 12) (.tmp 26) 78 85 (.agg #[(.int .i64 0), (.int .i64 0), (.int .i64 0), (.int .i64 0)]) 32 rfl Try.underlying78 info85 rfl (by decide) (by omega) u3 x3_1 (⟨(⟨(rd_T82 l0 x4_1).f0, (rd_T82 l0 x4_1).f1⟩ : S82), (⟨(rd_T82 l0 (ji7)).f0, (rd_T82 l0 (ji7)).f1⟩ : S82)⟩ : S85) [.int .i64 ((rd_T82 l0 x4_1).f0), .int .i64 ((rd_T82 l0 x4_1).f1), .int .i64 ((rd_T82 l0 (ji7)).f0), .int .i64 ((rd_T82 l0 (ji7)).f1)] (fun _ => True) (fun _ => False) rfl rfl ?aP (fun _ hk => hk.elim) ?aF ?aO ?aB ?aS ?aL ?_
         (case aP => exact k85_mkM _ _ _ (⟨(⟨(rd_T82 l0 x4_1).f0, (rd_T82 l0 x4_1).f1⟩ : S82), (⟨(rd_T82 l0 (ji7)).f0, (rd_T82 l0 (ji7)).f1⟩ : S82)⟩ : S85))
         (case aB => exact bz)
         (case aF => exact (fun _ _ => trivial))
         (case aO => exact (hr HO_3.out))
         (case aS => exact (below_size bz))
         (case aL => have := LMc10.out; omega)
         intro v181 w12 ho hb hg hat; rw [← Ny180.out] at ho; have n0_ := Aside0.mk (hb); have n1_ := Aside0.mk (ho); clear HB; clear HO_3; have HB := n0_; have HO182 := n1_; clear n0_ n1_; clear ho hb hg hat; refine hK.out _ _ ⟨(xz HB hw178_0 :), (xz HB hw178_1 :), (xz HB hw179_0 :), (xz HB hw179_1 :)⟩ (fun hHeld => ?_); clear hK K; refine nz 27 ?_; refine pz HT_ 16 3 ?_; refine dz HT_ ?_; (try go_wp2)
         go_roundg k1
         case measure => have := HK1.out; omega
         case rel => exact ⟨(y180), (wrap64 (x4_1 + 1)), rz, H', ⟨by have := HK1.out; omega⟩, ⟨hr HO182.out⟩, ⟨bz⟩⟩
        ·rw [if_neg c10] at H
         exact absurd H (by simp)
       ·rw [if_neg c9] at H
        exact absurd H (by simp)
      ·rw [if_neg c8] at H
       exact absurd H (by simp)
    ·rw [if_neg c5] at H
     exact absurd H (by simp)
   ·rw [if_neg c4] at H; have c4b0 := decide_eq_false c4; clear c4; obtain rfl := Option.some.inj H; go_wp2; go_ret
    exact ⟨_, ez, hr HO_3.out, bz⟩

end Go.Proofs.Ytdfehjfmihokpaa.PFnExactPieceDigest
