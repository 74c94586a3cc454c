/- FnExactAllPieces: the row over the printed walk: for every input the law returns true and each argument reads afterwards as it did. No condition. Written by rowgen.py (a program of this session's). -/
import Derived.Test.YtdfehjfmihokpaaZ
import Derived.Test.YtdfehjfmihokpaaPFnExactAllPiecesx0
import Derived.Test.YtdfehjfmihokpaaPFnExactAllPiecesx25
import Derived.Test.YtdfehjfmihokpaaPFnExactAllPiecesx27
import Derived.Test.YtdfehjfmihokpaaPFnExactAllPiecesx24
import Derived.Test.YtdfehjfmihokpaaPFnExactAllPiecesx2
import Derived.Test.YtdfehjfmihokpaaPFnExactAllPiecesx4
import Derived.Test.YtdfehjfmihokpaaPFnExactAllPiecesx5
import Derived.Test.YtdfehjfmihokpaaPFnExactAllPiecesx15
import Derived.Test.YtdfehjfmihokpaaPFnExactAllPiecesx1
import Derived.Test.YtdfehjfmihokpaaPFnExactAllPiecesx3
import Derived.Test.YtdfehjfmihokpaaPFnExactAllPiecesx6
import Derived.Test.YtdfehjfmihokpaaPFnExactAllPiecesx7
import Derived.Test.YtdfehjfmihokpaaPFnExactAllPiecesx8
import Derived.Test.YtdfehjfmihokpaaPFnExactAllPiecesx9
import Derived.Test.YtdfehjfmihokpaaPFnExactAllPiecesx10
import Derived.Test.YtdfehjfmihokpaaPFnExactAllPiecesx11
import Derived.Test.YtdfehjfmihokpaaPFnExactAllPiecesx12
import Derived.Test.YtdfehjfmihokpaaPFnExactAllPiecesx13
import Derived.Test.YtdfehjfmihokpaaPFnExactAllPiecesx14
import Derived.Test.YtdfehjfmihokpaaPFnExactAllPiecesx16
import Derived.Test.YtdfehjfmihokpaaPFnExactAllPiecesx17
import Derived.Test.YtdfehjfmihokpaaPFnExactAllPiecesx18
import Derived.Test.YtdfehjfmihokpaaPFnExactAllPiecesx19
import Derived.Test.YtdfehjfmihokpaaPFnExactAllPiecesx20
import Derived.Test.YtdfehjfmihokpaaPFnExactAllPiecesx21
import Derived.Test.YtdfehjfmihokpaaPFnExactAllPiecesx22
import Derived.Test.YtdfehjfmihokpaaPFnExactAllPiecesx23
import Derived.Test.YtdfehjfmihokpaaPFnExactAllPiecesx26
import Derived.Test.YtdfehjfmihokpaaRows
import Derived.JoinedOf
import Derived.WalkKit
import Derived.ProofKit
import Derived.Test.YtdfehjfmihokpaaWWords
import Derived.WideKeyArgs
import Derived.ChangeArms
import Derived.DataReads
import Derived.Below
import Derived.RowKit
import Derived.Test.YtdfehjfmihokpaaMeet
import Derived.OpenShut
import Derived.ShutString
import Derived.ChangeOld
import Derived.SizedLaws
namespace Go.Proofs.Ytdfehjfmihokpaa.PFnExactAllPieces
open Go.RowKit Go.Proofs.YtdfehjfmihokpaaW.PrintWords Go.Proofs.YtdfehjfmihokpaaW.PrintLast Go.Proofs.YtdfehjfmihokpaaW.PrintMore Go.Proofs.YtdfehjfmihokpaaGeo Go.Proofs.YtdfehjfmihokpaaHand Go.Proofs.YtdfehjfmihokpaaMeet Go.Proofs.YtdfehjfmihokpaaQuiet Go.Proofs.YtdfehjfmihokpaaZ
attribute [local go_sem] max2_int min2_int max_two min_two max_three min_three max_four min_four   -- for this text's walks alone
set_option linter.unusedVariables false
set_option linter.unusedSimpArgs false

/-! ### impl_piecesOf: function 99 -/
mutual
def impl_piecesOf.j0 : Nat → Bool → List (S110) → Bool → Int → Int → Int → ByteArray → List (S82) → Int → Int → Int → Int → Option ((List (S110)))
 | 0, _, _, _, _, _, _, _, _, _, _, _, _ => none
 | k + 1, x2, x7, x24, x413000, x413001, x413002, x413003, x413004, x414000, x414001, x414002, x414003 => if x24 = true then (if x7.length < 8796093022208 then (impl_piecesOf.j1 k x2 (x7 ++ [(⟨x413000, 0⟩ : S110)]) x413000 x413001 x413002 x413003 x413004 x414000 x414001 x414002 x414003) else (none)) else (impl_piecesOf.j1 k x2 x7 x413000 x413001 x413002 x413003 x413004 x414000 x414001 x414002 x414003)
def impl_piecesOf.j1 : Nat → Bool → List (S110) → Int → Int → Int → ByteArray → List (S82) → Int → Int → Int → Int → Option ((List (S110)))
 | 0, _, _, _, _, _, _, _, _, _, _, _ => none
 | k + 1, x2, x7, x413000, x413001, x413002, x413003, x413004, x414000, x414001, x414002, x414003 => (impl_PartsOf.f k x413000 x413001 x413002 x413003 x413004).bind fun t422 => (impl_piecesOf.l0 k x2 x7 t422 (t422.length : Int) 0 x413000 x413001 x413002 x413003 x413004 x414000 x414001 x414002 x414003)
def impl_piecesOf.l0 : Nat → Bool → List (S110) → List (S85) → Int → Int → Int → Int → Int → ByteArray → List (S82) → Int → Int → Int → Int → Option ((List (S110)))
 | 0, _, _, _, _, _, _, _, _, _, _, _, _, _, _ => none
 | k + 1, x2, x7, x32, x33, x34, x413000, x413001, x413002, x413003, x413004, x414000, x414001, x414002, x414003 => if x34 < x33 then (if 0 ≤ x34 then (if x34 < (x32.length : Int) then (if x2 = true then (if x7.length < 8796093022208 then (impl_piecesOf.l0 k x2 (x7 ++ [(⟨x413000, x34⟩ : S110)]) x32 x33 (wrap64 (x34 + 1)) x413000 x413001 x413002 x413003 x413004 x414000 x414001 x414002 x414003) else (none)) else ((impl_MeetsBox.f k ((rd_T85 x32 x34).f0.f0) ((rd_T85 x32 x34).f0.f1) ((rd_T85 x32 x34).f1.f0) ((rd_T85 x32 x34).f1.f1) x414000 x414001 x414002 x414003).bind fun t430 => (if t430 = true then (if x7.length < 8796093022208 then (impl_piecesOf.l0 k x2 (x7 ++ [(⟨x413000, x34⟩ : S110)]) x32 x33 (wrap64 (x34 + 1)) x413000 x413001 x413002 x413003 x413004 x414000 x414001 x414002 x414003) else (none)) else (impl_piecesOf.l0 k x2 x7 x32 x33 (wrap64 (x34 + 1)) x413000 x413001 x413002 x413003 x413004 x414000 x414001 x414002 x414003)))) else (none)) else (none)) else (some x7)
end
def impl_piecesOf.f (k : Nat) (a0_0 : Int) (a0_1 : Int) (a0_2 : Int) (a0_3 : ByteArray) (l0_4 : List (S82)) (a1_0 : Int) (a1_1 : Int) (a1_2 : Int) (a1_3 : Int) (a2 : Bool) : Option ((List (S110))) := (some (([] : List (S110)) : List (S110))).bind fun y414 => (if a0_1 = 1 then (if a2 = true then (impl_piecesOf.j0 k a2 y414 true a0_0 a0_1 a0_2 a0_3 l0_4 a1_0 a1_1 a1_2 a1_3) else (if 0 < (l0_4.length : Int) then ((impl_InBox.f a1_0 a1_1 a1_2 a1_3 ((rd_T82 l0_4 0).f0) ((rd_T82 l0_4 0).f1)).bind fun t418 => (impl_piecesOf.j0 k a2 y414 t418 a0_0 a0_1 a0_2 a0_3 l0_4 a1_0 a1_1 a1_2 a1_3)) else (none))) else (impl_piecesOf.j0 k a2 y414 false a0_0 a0_1 a0_2 a0_3 l0_4 a1_0 a1_1 a1_2 a1_3))
theorem impl_piecesOf.mono_l : ∀ k, (∀ y0 y1 y2 y3 y4 y5 y6 y7 y8 y9 y10 y11, LeO (impl_piecesOf.j0 k y0 y1 y2 y3 y4 y5 y6 y7 y8 y9 y10 y11) (impl_piecesOf.j0 (k + 1) y0 y1 y2 y3 y4 y5 y6 y7 y8 y9 y10 y11)) ∧ (∀ y0 y1 y2 y3 y4 y5 y6 y7 y8 y9 y10, LeO (impl_piecesOf.j1 k y0 y1 y2 y3 y4 y5 y6 y7 y8 y9 y10) (impl_piecesOf.j1 (k + 1) y0 y1 y2 y3 y4 y5 y6 y7 y8 y9 y10)) ∧ (∀ y0 y1 y2 y3 y4 y5 y6 y7 y8 y9 y10 y11 y12 y13, LeO (impl_piecesOf.l0 k y0 y1 y2 y3 y4 y5 y6 y7 y8 y9 y10 y11 y12 y13) (impl_piecesOf.l0 (k + 1) y0 y1 y2 y3 y4 y5 y6 y7 y8 y9 y10 y11 y12 y13))
 | 0 => ⟨fun _ _ _ _ _ _ _ _ _ _ _ _ r h => by simp [impl_piecesOf.j0] at h, fun _ _ _ _ _ _ _ _ _ _ _ r h => by simp [impl_piecesOf.j1] at h, fun _ _ _ _ _ _ _ _ _ _ _ _ _ _ r h => by simp [impl_piecesOf.l0] at h⟩
 | k + 1 => by
  obtain ⟨ih0, ih1, ih2⟩ := impl_piecesOf.mono_l k; refine ⟨?_, ?_, ?_⟩
  ·intro y0 y1 y2 y3 y4 y5 y6 y7 y8 y9 y10 y11
   unfold impl_piecesOf.j0
   repeat' first | (with_reducible first | exact ih0 _ _ _ _ _ _ _ _ _ _ _ _ | exact ih1 _ _ _ _ _ _ _ _ _ _ _ | exact ih2 _ _ _ _ _ _ _ _ _ _ _ _ _ _ | exact impl_MeetsBox.mono _ _ _ _ _ _ _ _ _ | exact impl_PartsOf.mono _ _ _ _ _ _ | exact LeO.refl _ | exact LeO.none _ | refine LeO.ite ?_ ?_ | refine LeO.bind ?_ (fun _ => ?_)) | exact ih0 _ _ _ _ _ _ _ _ _ _ _ _ | exact ih1 _ _ _ _ _ _ _ _ _ _ _ | exact ih2 _ _ _ _ _ _ _ _ _ _ _ _ _ _ | exact impl_MeetsBox.mono _ _ _ _ _ _ _ _ _ | exact impl_PartsOf.mono _ _ _ _ _ _ | exact LeO.none _ | refine LeO.ite ?_ ?_ | refine LeO.bind ?_ (fun _ => ?_)
  ·intro y0 y1 y2 y3 y4 y5 y6 y7 y8 y9 y10
   unfold impl_piecesOf.j1
   repeat' first | (with_reducible first | exact ih0 _ _ _ _ _ _ _ _ _ _ _ _ | exact ih1 _ _ _ _ _ _ _ _ _ _ _ | exact ih2 _ _ _ _ _ _ _ _ _ _ _ _ _ _ | exact impl_MeetsBox.mono _ _ _ _ _ _ _ _ _ | exact impl_PartsOf.mono _ _ _ _ _ _ | exact LeO.refl _ | exact LeO.none _ | refine LeO.ite ?_ ?_ | refine LeO.bind ?_ (fun _ => ?_)) | exact ih0 _ _ _ _ _ _ _ _ _ _ _ _ | exact ih1 _ _ _ _ _ _ _ _ _ _ _ | exact ih2 _ _ _ _ _ _ _ _ _ _ _ _ _ _ | exact impl_MeetsBox.mono _ _ _ _ _ _ _ _ _ | exact impl_PartsOf.mono _ _ _ _ _ _ | exact LeO.none _ | refine LeO.ite ?_ ?_ | refine LeO.bind ?_ (fun _ => ?_)
  ·intro y0 y1 y2 y3 y4 y5 y6 y7 y8 y9 y10 y11 y12 y13
   unfold impl_piecesOf.l0
   repeat' first | (with_reducible first | exact ih0 _ _ _ _ _ _ _ _ _ _ _ _ | exact ih1 _ _ _ _ _ _ _ _ _ _ _ | exact ih2 _ _ _ _ _ _ _ _ _ _ _ _ _ _ | exact impl_MeetsBox.mono _ _ _ _ _ _ _ _ _ | exact impl_PartsOf.mono _ _ _ _ _ _ | exact LeO.refl _ | exact LeO.none _ | refine LeO.ite ?_ ?_ | refine LeO.bind ?_ (fun _ => ?_)) | exact ih0 _ _ _ _ _ _ _ _ _ _ _ _ | exact ih1 _ _ _ _ _ _ _ _ _ _ _ | exact ih2 _ _ _ _ _ _ _ _ _ _ _ _ _ _ | exact impl_MeetsBox.mono _ _ _ _ _ _ _ _ _ | exact impl_PartsOf.mono _ _ _ _ _ _ | exact LeO.none _ | refine LeO.ite ?_ ?_ | refine LeO.bind ?_ (fun _ => ?_)
theorem impl_piecesOf.mono : ∀ a0 a1 a2 a3 a4 a5 a6 a7 a8 a9 k, LeO (impl_piecesOf.f k a0 a1 a2 a3 a4 a5 a6 a7 a8 a9) (impl_piecesOf.f (k + 1) a0 a1 a2 a3 a4 a5 a6 a7 a8 a9) := by
 intro a0 a1 a2 a3 a4 a5 a6 a7 a8 a9 k; obtain ⟨ih0, ih1, ih2⟩ := impl_piecesOf.mono_l k
 unfold impl_piecesOf.f
 repeat' first | (with_reducible first | exact ih0 _ _ _ _ _ _ _ _ _ _ _ _ | exact ih1 _ _ _ _ _ _ _ _ _ _ _ | exact ih2 _ _ _ _ _ _ _ _ _ _ _ _ _ _ | exact impl_MeetsBox.mono _ _ _ _ _ _ _ _ _ | exact impl_PartsOf.mono _ _ _ _ _ _ | exact LeO.refl _ | exact LeO.none _ | refine LeO.ite ?_ ?_ | refine LeO.bind ?_ (fun _ => ?_)) | exact ih0 _ _ _ _ _ _ _ _ _ _ _ _ | exact ih1 _ _ _ _ _ _ _ _ _ _ _ | exact ih2 _ _ _ _ _ _ _ _ _ _ _ _ _ _ | exact impl_MeetsBox.mono _ _ _ _ _ _ _ _ _ | exact impl_PartsOf.mono _ _ _ _ _ _ | exact LeO.none _ | refine LeO.ite ?_ ?_ | refine LeO.bind ?_ (fun _ => ?_)
def impl_piecesOf.T2 : Bool × List (List Nat × List Nat) := (true, [([], []), ([0], [0]), ([1], [1]), ([2], [2]), ([3], [3]), ([4, 3, 3], [3, 4]), ([5], [5]), ([5], [5]), ([7, 5], [5, 7]), ([8, 5], [5, 8]), ([9, 5], [5, 9]), ([6, 10, 5, 5], [5, 6, 10]), ([5, 11, 3], [3, 5, 11]), ([3, 12], [3, 12])])
def impl_piecesOf.B2 : List Nat := [0, 1, 3, 7, 15, 31, 63, 63, 191, 447, 959, 2047, 4095, 8191]
theorem impl_piecesOf.tab2 : rtab .any (opsOf Try.f99 2) = impl_piecesOf.T2 := by kernel_rfl
theorem impl_piecesOf.bits2 : waitsOk impl_piecesOf.T2.2 impl_piecesOf.B2 = true := by kernel_rfl
set_option maxHeartbeats 8000000 in
set_option maxRecDepth 100000 in
theorem impl_piecesOf.calls (k : Nat) (a0_0 : Int) (a0_1 : Int) (a0_2 : Int) (a0_3 : ByteArray) (A0_4 : Option Addr) (c0_4 : Nat) (l0_4 : List (S82)) (a1_0 : Int) (a1_1 : Int) (a1_2 : Int) (a1_3 : Int) (a2 : Bool) (r : List (S110)) (w : World) (hr0_4 : Kd.C k82 w A0_4 l0_4.length l0_4) (hc0_4 : l0_4.length ≤ c0_4) (h : impl_piecesOf.f k a0_0 a0_1 a0_2 a0_3 l0_4 a1_0 a1_1 a1_2 a1_3 a2 = some r) :
  Calls Try.prog 99 #[.agg #[.int .i64 a0_0, .int .i64 a0_1, .int .i64 a0_2, .string a0_3, .slice A0_4 l0_4.length c0_4], .agg #[.int .i64 a1_0, .int .i64 a1_1, .int .i64 a1_2, .int .i64 a1_3], .bool a2] w fun e w' => ∃ v0_ : Value, e = .returned (v0_) ∧ Kd.R k110 110 w' w.heap.size (fun _ => True) v0_ r ∧ Below w.heap.size w w' := by
 have hu29 := Try.underlying29; have hu98 := Try.underlying98; have hu82 := Try.underlying82; have hu110 := Try.underlying110; have hu85 := Try.underlying85; have HR0_4 := Aside0.mk hr0_4; have HC0_4 := Aside0.mk hc0_4; clear hr0_4 hc0_4; have HB := Aside0.mk (Below.refl w.heap.size w); have H : ((some (([] : List (S110)) : List (S110))).bind fun y414 => (if a0_1 = 1 then (if a2 = true then (impl_piecesOf.j0 k a2 y414 true a0_0 a0_1 a0_2 a0_3 l0_4 a1_0 a1_1 a1_2 a1_3) else (if 0 < (l0_4.length : Int) then ((impl_InBox.f a1_0 a1_1 a1_2 a1_3 ((rd_T82 l0_4 0).f0) ((rd_T82 l0_4 0).f1)).bind fun t418 => (impl_piecesOf.j0 k a2 y414 t418 a0_0 a0_1 a0_2 a0_3 l0_4 a1_0 a1_1 a1_2 a1_3)) else (none))) else (impl_piecesOf.j0 k a2 y414 false a0_0 a0_1 a0_2 a0_3 l0_4 a1_0 a1_1 a1_2 a1_3))) = some r := h; clear h; obtain ⟨y414, hy414⟩ : ∃ y_ : List (S110), y_ = (([] : List (S110))) := ⟨_, rfl⟩
 replace H : (if a0_1 = 1 then (if a2 = true then (impl_piecesOf.j0 k a2 y414 true a0_0 a0_1 a0_2 a0_3 l0_4 a1_0 a1_1 a1_2 a1_3) else (if 0 < (l0_4.length : Int) then ((impl_InBox.f a1_0 a1_1 a1_2 a1_3 ((rd_T82 l0_4 0).f0) ((rd_T82 l0_4 0).f1)).bind fun t418 => (impl_piecesOf.j0 k a2 y414 t418 a0_0 a0_1 a0_2 a0_3 l0_4 a1_0 a1_1 a1_2 a1_3)) else (none))) else (impl_piecesOf.j0 k a2 y414 false a0_0 a0_1 a0_2 a0_3 l0_4 a1_0 a1_1 a1_2 a1_3)) = some r := by first | (rw [hy414]; with_reducible exact H) | (have H2_ := (Option.bind_some _ _).symm.trans H; rw [hy414]; with_reducible exact H2_) | (have H2_ := (Option.bind_some _ _).symm.trans H; with_reducible exact H2_) | with_reducible exact H | (rw [hy414]; exact H) | exact H
 have Ny414 := Aside0.mk hy414; clear hy414; have HC4 := Aside0.mk H; clear H
 go_enter Try.func99, Try.ntmps99
 go_upto_region 2 with (first | ((with_reducible refine gt (some 3) rfl ?_); refine bx #[.int .i64 a0_0, .int .i64 a0_1, .int .i64 a0_2, .string a0_3, .slice A0_4 l0_4.length c0_4] 29 ?_; intro gb412 hg w5 hbox hb; have BK412 := Aside0.mk (hbox); have GW412 := Aside0.mk (gez HB hg); have GE412 := Aside0.mk (gez HB hg); replace HB := Aside0.mk (below_step bz hb); clear hb hbox hg) | ((with_reducible refine gt (some 4) rfl ?_); refine bx #[.int .i64 a1_0, .int .i64 a1_1, .int .i64 a1_2, .int .i64 a1_3] 98 ?_; intro gb413 hg w6 hbox hb; have BK413 := Aside0.mk (hbox); have GW413 := Aside0.mk (gez HB hg); have GE413 := Aside0.mk (gez HB hg); replace HB := Aside0.mk (below_step bzs hb); have NB412_413 := Aside0.mk ((by rw [hg]; exact Nat.ne_of_lt (blk_lt (g := gb412) (o := .cells #[.int .i64 a0_0, .int .i64 a0_1, .int .i64 a0_2, .string a0_3, .slice A0_4 l0_4.length c0_4] 29 (0, 0)) (kz BK412)) : gb412 ≠ gb413)); have NB413_412 := Aside0.mk ((by rw [hg]; exact Nat.ne_of_gt (blk_lt (g := gb412) (o := .cells #[.int .i64 a0_0, .int .i64 a0_1, .int .i64 a0_2, .string a0_3, .slice A0_4 l0_4.length c0_4] 29 (0, 0)) (kz BK412)) : gb413 ≠ gb412)); replace BK412 := Aside0.mk (bbz BK412 hb); clear hb hbox hg) | ((with_reducible refine gate_dst (N := 10) rfl ?_); refine Kd.R_lit k110 _ 110 ?hg (N := 10) ?hd (xs := ([] : List (S110))) (inner := []) (ok := fun _ => True) (okp := fun _ => True) ?hr ?hp (fun _ hk => hk) trivial (Below.refl _ _) (Nat.le_refl _) (by simp) ?_; (case hd => rfl); (case hg => rfl); (case hr => first | (go_simp; done) | (go_simp; rfl)); (case hp => exact (Reps.none _ _)); intro v415 w7 ho8 hb hg_ hnew_; clear hg_ hnew_; (first | rw [← Ny414.out] at ho8 | (simp only [Int.reduceToNat] at ho8; rw [← Ny414.out] at ho8)); have HO416 := Aside0.mk (Kd.R_lower ho8 (below_size bzs)); replace BK412 := Aside0.mk (bbz BK412 hb); replace BK413 := Aside0.mk (bbz BK413 hb); replace HB := Aside0.mk (below_step bzs hb); clear hb ho8))
 (try simp only [Act.put, List.setIfInBounds_toArray, List.set_cons_zero, List.set_cons_succ])
 go_cut [24] (fun v24 wc => ∃ (kq : Nat) (x24_3 : Bool), v24 = .bool x24_3 ∧ Aside0 (impl_piecesOf.j0 kq a2 y414 x24_3 a0_0 a0_1 a0_2 a0_3 l0_4 a1_0 a1_1 a1_2 a1_3 = some r) ∧ Aside0 (kq ≤ k) ∧ Aside0 (Kd.R k110 110 wc w.heap.size (fun _ => True) v415 y414) ∧ Aside0 (wc.heap[gb412]? = some (.cells #[.int .i64 a0_0, .int .i64 a0_1, .int .i64 a0_2, .string a0_3, (.slice A0_4 l0_4.length c0_4)] 29 (0, 0))) ∧ Aside0 (wc.heap[gb413]? = some (.cells #[.int .i64 a1_0, .int .i64 a1_1, .int .i64 a1_2, .int .i64 a1_3] 98 (0, 0))) ∧ Aside0 (Below w.heap.size w wc))
 case first =>
  have H := HC4.out; clear HC4
  by_cases c9 : a0_1 = 1
  ·rw [if_pos c9] at H; have c9b0 : (a0_1 == 1) = true := beq_iff_eq.mpr c9; have c9b1 : (a0_1 != 1) = false := bne_eq_false_iff_eq.mpr c9; clear c9
   (first | rw [c9b0] | (simp only [i64_w, i32_w]; rw [c9b0]) | skip)
   by_cases c10 : a2 = true
   ·subst c10; replace H := ift H; have H' := Aside0.mk H; clear H; (try go_wp2); replace HO416 := Aside0.mk (Kd.R_drew HO416.out); replace BK412 := Aside0.mk (blk_drew BK412.out); replace BK413 := Aside0.mk (blk_drew BK413.out); replace HB := Aside0.mk (below_drew1 HB.out); refine start_ (n := 14) (S := fun w' => w'.cell? ⟨gb412, 0, none⟩ = some (.int .i64 a0_0) ∧ w'.cell? ⟨gb412, 1, none⟩ = some (.int .i64 a0_1) ∧ w'.cell? ⟨gb412, 2, none⟩ = some (.int .i64 a0_2) ∧ w'.cell? ⟨gb412, 3, none⟩ = some (.string a0_3) ∧ w'.cell? ⟨gb412, 4, none⟩ = some (.slice A0_4 l0_4.length c0_4)) (ds := []) #[F,F,F,F,F,F,F,F,F,F,F,F,F,F] (by kernel_rfl) rfl rfl ⟨bc BK412 0, bc BK412 1, bc BK412 2, bc BK412 3, bc BK412 4⟩ (fun hHeld => ?_); refine with_tabW impl_piecesOf.tab2 impl_piecesOf.bits2 (fun HT_ HW_ => ?_); generalize w7.drew = w11 at HO416 BK412 BK413 HB hHeld ⊢; refine pz HT_ 0 11 ?_; refine tz5 HT_ HW_ hHeld 1 12 ?_; refine pz HT_ 2 13 ?_; refine pz HT_ 3 14 ?_; refine pz HT_ 4 15 ?_; refine pz HT_ 5 16 ?_; refine uz HT_ 6 17 ?_; refine uz HT_ 7 18 ?_; refine uz HT_ 8 19 ?_; refine uz HT_ 9 20 ?_; refine uz HT_ 10 21 ?_; refine uz HT_ 11 22 ?_; refine pz HT_ 12 23 ?_; refine pz HT_ 13 24 ?_; refine dz HT_ ?_; (try go_wp2)
    go_meet
    case rel => exact ⟨_, (true), rz, H', ⟨qz⟩, ⟨hr HO416.out⟩, ⟨kz BK412⟩, ⟨kz BK413⟩, ⟨bzs⟩⟩
   ·replace c10 := Bool.eq_false_iff.mpr c10; subst c10; replace H := iff_ H
    by_cases c12 : 0 < (l0_4.length : Int)
    ·rw [if_pos c12] at H; have c12b0 := decide_eq_true c12; have c12b1 : decide (0 < l0_4.length) = true := decide_eq_true (by omega); clear c12; replace H := Option.bind_eq_some_iff.mp H; obtain ⟨t418, A130, H⟩ := H; have A13 := Aside0.mk A130; clear A130; have H' := Aside0.mk H; clear H; (try go_wp2); replace HO416 := Aside0.mk (Kd.R_drew HO416.out); replace BK412 := Aside0.mk (blk_drew BK412.out); replace BK413 := Aside0.mk (blk_drew BK413.out); replace HB := Aside0.mk (below_drew1 HB.out); have p417 : 0 ≤ (0 : Int) := (by omega)
     have q417 : 0 < (l0_4.length : Int) := of_decide_eq_true az; obtain ⟨ad417, e417, hx417_0, hx417_1⟩ := at_T82 HR0_4.out 0 p417 q417; have hw417_1 := hx417_1; (try rw [show ((0 : Int)).toNat = 0 from rfl] at hw417_1); (try rw [show 0 * 2 = 0 from rfl] at hw417_1); (try rw [Addr.add_zero'] at hw417_1); have hw417_0 := hx417_0; (try rw [show ((0 : Int)).toNat = 0 from rfl] at hw417_0); (try rw [show 0 * 2 = 0 from rfl] at hw417_0); (try rw [Addr.add_zero'] at hw417_0)
     cases e417
     have qi417 : (0 < l0_4.length) = True := eq_true (by omega); (try rw [show ((0 : Int)).toNat = 0 from rfl] at hx417_0); (try rw [show 0 * 2 = 0 from rfl] at hx417_0); (try rw [Addr.add_zero'] at hx417_0); (try rw [show ((0 : Int)).toNat = 0 from rfl] at hx417_1); (try rw [show 0 * 2 = 0 from rfl] at hx417_1); (try rw [Addr.add_zero'] at hx417_1); replace hx417_0 := xz HB hx417_0; replace hx417_1 := xz HB hx417_1; replace p417 := eq_true p417; replace q417 := eq_true q417; refine start_ (n := 14) (S := fun w' => w'.cell? ⟨gb412, 0, none⟩ = some (.int .i64 a0_0) ∧ w'.cell? ⟨gb412, 1, none⟩ = some (.int .i64 a0_1) ∧ w'.cell? ⟨gb412, 2, none⟩ = some (.int .i64 a0_2) ∧ w'.cell? ⟨gb412, 3, none⟩ = some (.string a0_3) ∧ w'.cell? ⟨gb412, 4, none⟩ = some (.slice (some ad417) l0_4.length c0_4) ∧ w'.cell? ⟨gb413, 0, none⟩ = some (.int .i64 a1_0) ∧ w'.cell? ⟨gb413, 1, none⟩ = some (.int .i64 a1_1) ∧ w'.cell? ⟨gb413, 2, none⟩ = some (.int .i64 a1_2) ∧ w'.cell? ⟨gb413, 3, none⟩ = some (.int .i64 a1_3) ∧ w'.cell? ad417 = some (.int .i64 ((rd_T82 l0_4 0).f0)) ∧ w'.cell? ⟨ad417.block, ad417.off + 1, none⟩ = some (.int .i64 ((rd_T82 l0_4 0).f1))) (ds := []) #[F,F,F,F,F,F,F,F,F,F,F,F,F,F] (by kernel_rfl) rfl rfl ⟨bc BK412 0, bc BK412 1, bc BK412 2, bc BK412 3, bc BK412 4, bc BK413 0, bc BK413 1, bc BK413 2, bc BK413 3, (xz HB hw417_0 :), (xz HB hw417_1 :)⟩ (fun hHeld => ?_); refine with_tabW impl_piecesOf.tab2 impl_piecesOf.bits2 (fun HT_ HW_ => ?_); generalize w7.drew = w14 at HO416 BK412 BK413 HB hx417_0 hx417_1 hHeld ⊢
     refine pz HT_ 0 11 ?_; refine tz11 HT_ HW_ hHeld 1 12 ?_; refine pz HT_ 2 13 ?_; refine pz HT_ 3 14 ?_; refine pz HT_ 4 15 ?_; refine pz HT_ 5 16 ?_; refine pz HT_ 7 18 ?_; refine tz11 HT_ HW_ hHeld 6 17 ?_; refine tz11 HT_ HW_ hHeld 8 19 ?_; refine pz HT_ 9 20 ?_; refine tz11 HT_ HW_ hHeld 10 21 ?_; refine oz HT_ 11 (some 22) (fun K hK => ?_); refine gz Try.func143 #[.agg #[.int .i64 a1_0, .int .i64 a1_1, .int .i64 a1_2, .int .i64 a1_3], .agg #[.int .i64 ((rd_T82 l0_4 0).f0), .int .i64 ((rd_T82 l0_4 0).f1)]] ?_
     with_reducible refine (impl_InBox.calls a1_0 a1_1 a1_2 a1_3 ((rd_T82 l0_4 0).f0) ((rd_T82 l0_4 0).f1) t418 _ A13.out).mono ?_
     rintro e w15 ⟨rfl, hb⟩; refine ⟨_, rfl, ?_⟩; replace HO416 := Aside0.mk (rbz HO416 hb); replace BK412 := Aside0.mk (bbz BK412 hb); replace BK413 := Aside0.mk (bbz BK413 hb); replace HB := Aside0.mk (below_step bzs hb); (try clear hb); (try clear hb2); (try clear hk); (try clear hi); refine hK.out _ _ ⟨bc BK412 0, bc BK412 1, bc BK412 2, bc BK412 3, bc BK412 4, bc BK413 0, bc BK413 1, bc BK413 2, bc BK413 3, (xz HB hw417_0 :), (xz HB hw417_1 :)⟩ (fun hHeld => ?_); clear hK K; refine nz 22 ?_; refine pz HT_ 12 23 ?_; refine pz HT_ 13 24 ?_; refine dz HT_ ?_; (try go_wp2)
     go_meet
     case rel => exact ⟨_, (t418), rz, H', ⟨qz⟩, ⟨hr HO416.out⟩, ⟨kz BK412⟩, ⟨kz BK413⟩, ⟨bzs⟩⟩
    ·rw [if_neg c12] at H
     exact absurd H (by simp)
  ·rw [if_neg c9] at H; have c9b0 : (a0_1 == 1) = false := beq_eq_false_iff_ne.mpr c9; have c9b1 : (a0_1 != 1) = true := bne_iff_ne.mpr c9
   (first | rw [c9b0] | (simp only [i64_w, i32_w]; rw [c9b0]) | skip)
   have H' := Aside0.mk H; clear H; (try go_wp2); replace HO416 := Aside0.mk (Kd.R_drew HO416.out); replace BK412 := Aside0.mk (blk_drew BK412.out); replace BK413 := Aside0.mk (blk_drew BK413.out); replace HB := Aside0.mk (below_drew1 HB.out); refine start_ (n := 14) (S := fun w' => w'.cell? ⟨gb412, 0, none⟩ = some (.int .i64 a0_0) ∧ w'.cell? ⟨gb412, 1, none⟩ = some (.int .i64 a0_1) ∧ w'.cell? ⟨gb412, 2, none⟩ = some (.int .i64 a0_2) ∧ w'.cell? ⟨gb412, 3, none⟩ = some (.string a0_3) ∧ w'.cell? ⟨gb412, 4, none⟩ = some (.slice A0_4 l0_4.length c0_4)) (ds := []) #[F,F,F,F,F,F,F,F,F,F,F,F,F,F] (by kernel_rfl) rfl rfl ⟨bc BK412 0, bc BK412 1, bc BK412 2, bc BK412 3, bc BK412 4⟩ (fun hHeld => ?_); refine with_tabW impl_piecesOf.tab2 impl_piecesOf.bits2 (fun HT_ HW_ => ?_); generalize w7.drew = w16 at HO416 BK412 BK413 HB hHeld ⊢; refine pz HT_ 0 11 ?_; refine tz5 HT_ HW_ hHeld 1 12 ?_; refine pz HT_ 2 13 ?_; refine pz HT_ 3 14 ?_; refine uz HT_ 4 15 ?_; refine uz HT_ 5 16 ?_; refine uz HT_ 6 17 ?_; refine uz HT_ 7 18 ?_; refine uz HT_ 8 19 ?_; refine uz HT_ 9 20 ?_; refine uz HT_ 10 21 ?_; refine uz HT_ 11 22 ?_; refine uz HT_ 12 23 ?_; refine pz HT_ 13 24 ?_; refine dz HT_ ?_; (try go_wp2)
   go_meet
   case rel => exact ⟨_, (false), rz, H', ⟨qz⟩, ⟨hr HO416.out⟩, ⟨kz BK412⟩, ⟨kz BK413⟩, ⟨bzs⟩⟩
 case rest =>
  clear HC4; (try clear c1); (try clear p2); (try clear p4); (try clear q4); (try clear hx4); (try clear qi4); (try clear c9); (try clear c9b0); (try clear c9b1); (try clear c10); (try clear c12); (try clear c12b0); (try clear c12b1); (try clear c14); (try clear hx417_0); (try clear hx417_1); (try clear p417); (try clear q417); obtain ⟨kq, x24_3, rfl, HA, HJ3, HO_7, BK412, BK413, HB⟩ := hcut
  cases kq with
  | zero => exact absurd HA.out (by simp [impl_piecesOf.j0])
  | succ kj3 =>
   have H := HA.out; clear HA; simp only [impl_piecesOf.j0] at H; have HC17 := Aside0.mk H; clear H
   go_upto_if 24 with (fail)
   go_cut [7] (fun v7 wc => ∃ (kq : Nat) (x7_16 : List (S110)), Aside0 (impl_piecesOf.j1 kq a2 x7_16 a0_0 a0_1 a0_2 a0_3 l0_4 a1_0 a1_1 a1_2 a1_3 = some r) ∧ Aside0 (kq ≤ kj3) ∧ Aside0 (Kd.R k110 110 wc w.heap.size (fun _ => True) v7 x7_16) ∧ Aside0 (wc.heap[gb412]? = some (.cells #[.int .i64 a0_0, .int .i64 a0_1, .int .i64 a0_2, .string a0_3, (.slice A0_4 l0_4.length c0_4)] 29 (0, 0))) ∧ Aside0 (wc.heap[gb413]? = some (.cells #[.int .i64 a1_0, .int .i64 a1_1, .int .i64 a1_2, .int .i64 a1_3] 98 (0, 0))) ∧ Aside0 (Below w.heap.size w wc))
   case first =>
    have H := HC17.out; clear HC17
    by_cases c18 : x24_3 = true
    ·subst c18; replace H := ift H
     by_cases c19 : y414.length < 8796093022208
     ·rw [if_pos c19] at H; have LMc19 := Aside0.mk c19; clear c19; obtain ⟨y419, hy419⟩ : ∃ y_ : List (S110), y_ = (y414 ++ [(⟨a0_0, 0⟩ : S110)]) := ⟨_, rfl⟩
      replace H : (impl_piecesOf.j1 kj3 a2 y419 a0_0 a0_1 a0_2 a0_3 l0_4 a1_0 a1_1 a1_2 a1_3) = some r := by first | (rw [hy419]; with_reducible exact H) | (have H2_ := (Option.bind_some _ _).symm.trans H; rw [hy419]; with_reducible exact H2_) | (have H2_ := (Option.bind_some _ _).symm.trans H; with_reducible exact H2_) | with_reducible exact H | (rw [hy419]; exact H) | exact H
      have Ny419 := Aside0.mk hy419; clear hy419; have H' := Aside0.mk H; clear H; have hnb20 := NB412_413.out; have hnc20 := NB413_412.out; obtain ⟨hcz21_0, hcz21_1, hcz21_2, hcz21_3, hcz21_4, hfz21_0, hfz21_1, hfz21_2, hfz21_3, hfz21_4⟩ := cells5 BK412; go_wp2_with (first | ((with_reducible refine gate_builtin (b := .append) (xs := #[.tmp 25, .tmp 29]) rfl ?_); at_builtin; refine Kd.R_append k110 (w0 := w) w.heap.size rfl (.tmp 25) (.tmp 29) 64 110 (.agg #[(.int .i64 0), (.int .i64 0)]) 16 rfl Try.underlying64 info110 rfl (by decide) (by omega) v415 y414 (⟨a0_0, 0⟩ : S110) [.int .i64 a0_0, .int .i64 0] (fun _ => True) (fun _ => False) rfl rfl ?aP (fun _ hk => hk.elim) ?aF ?aO ?aB ?aS ?aL ?_; (case aP => exact k110_mkM _ _ _ (⟨a0_0, 0⟩ : S110)); (case aB => exact bzs); (case aF => exact (fun _ _ => trivial)); (case aO => exact (hr HO_7.out)); (case aS => exact (below_size bzs)); (case aL => have := LMc19.out; omega); intro v420 w22 ho hb hg hat; rw [← Ny419.out] at ho; have n0_ := Aside0.mk (blk_grown (g := gb412) (o := .cells #[.int .i64 a0_0, .int .i64 a0_1, .int .i64 a0_2, .string a0_3, .slice A0_4 l0_4.length c0_4] 29 (0, 0)) (kz BK412) hg (Kd.R_ne HO_7.out BK412.out (by decide))); have n1_ := Aside0.mk (blk_grown (g := gb413) (o := .cells #[.int .i64 a1_0, .int .i64 a1_1, .int .i64 a1_2, .int .i64 a1_3] 98 (0, 0)) (kz BK413) hg (Kd.R_ne HO_7.out BK413.out (by decide))); have n2_ := Aside0.mk (hb); have n3_ := Aside0.mk (ho); clear BK412; clear BK413; clear HB; clear HO_7; have BK412 := n0_; have BK413 := n1_; have HB := n2_; have HO421 := n3_; clear n0_ n1_ n2_ n3_; clear ho hb hg hat))
      go_meet
      case rel => exact ⟨_, (y419), H', ⟨by have := HJ3.out; first | omega | exact Nat.le_refl _⟩, ⟨hr HO421.out⟩, ⟨kz BK412⟩, ⟨kz BK413⟩, ⟨bzs⟩⟩
     ·rw [if_neg c19] at H
      exact absurd H (by simp)
    ·replace c18 := Bool.eq_false_iff.mpr c18; subst c18; replace H := iff_ H; have H' := Aside0.mk H; clear H; go_wp2
     go_meet
     case rel => exact ⟨_, (y414), H', ⟨by have := HJ3.out; first | omega | exact Nat.le_refl _⟩, ⟨hr HO_7.out⟩, ⟨kz BK412⟩, ⟨kz BK413⟩, ⟨bzs⟩⟩
   case rest =>
    clear HC17; (try clear c1); (try clear c2); (try clear p2); (try clear p4); (try clear q4); (try clear hx4); (try clear qi4); (try clear c9); (try clear c9b0); (try clear c9b1); (try clear c10); (try clear c12); (try clear c12b0); (try clear c12b1); (try clear c14); (try clear c18); (try clear c19); (try clear c20); (try clear hcz21_0); (try clear hcz21_1); (try clear hcz21_2); (try clear hcz21_3); (try clear hcz21_4); (try clear hfz21_0); (try clear hfz21_1); (try clear hfz21_2); (try clear hfz21_3); (try clear hfz21_4); (try clear hx417_0); (try clear hx417_1); (try clear p2); (try clear p4); (try clear p417); (try clear q4); (try clear q417); obtain ⟨kq, x7_16, HA, HJ16, HO_7, BK412, BK413, HB⟩ := hcut
    cases kq with
    | zero => exact absurd HA.out (by simp [impl_piecesOf.j1])
    | succ kj16 =>
     have H := HA.out; clear HA; simp only [impl_piecesOf.j1] at H; replace H := Option.bind_eq_some_iff.mp H; obtain ⟨t422, A230, H⟩ := H; have A23 := Aside0.mk A230; clear A230; have H' := Aside0.mk H; clear H; have hnb24 := NB412_413.out; have hnc24 := NB413_412.out; obtain ⟨hcz25_0, hcz25_1, hcz25_2, hcz25_3, hcz25_4, hfz25_0, hfz25_1, hfz25_2, hfz25_3, hfz25_4⟩ := cells5 BK412; go_wp2_with (first | ((with_reducible refine gt (some 32) rfl ?_); refine gc Try.func74 (impl_PartsOf.calls kj16 a0_0 a0_1 a0_2 a0_3 A0_4 c0_4 l0_4 t422 _ (cz (Kd.C_below HR0_4.out HB.out)) HC0_4.out A23.out) ?_; rintro e w26 ⟨v423, rfl, ho0, hb⟩; refine ⟨_, rfl, ?_⟩; replace HO_7 := Aside0.mk (rbz HO_7 hb); have HO424 := Aside0.mk (Kd.R_lower ho0 (below_size bzs)); replace BK412 := Aside0.mk (bbz BK412 hb); replace BK413 := Aside0.mk (bbz BK413 hb); replace HB := Aside0.mk (below_step bzs hb); (try clear hb); (try clear ho0); obtain ⟨Ao27, co27, eo27⟩ := Kd.R_slice HO424.out; subst eo27))
     go_loopg [7, 34] kj16 (fun kq v7 v34 w' => ∃ (x7_3 : List (S110)) (x34_3 : Int), v34 = .int .i64 x34_3 ∧ Aside0 (impl_piecesOf.l0 kq a2 x7_3 t422 (t422.length : Int) x34_3 a0_0 a0_1 a0_2 a0_3 l0_4 a1_0 a1_1 a1_2 a1_3 = some r) ∧ Aside0 (kq ≤ kj16) ∧ Aside0 (Kd.R k110 110 w' w.heap.size (fun _ => True) v7 x7_3) ∧ Aside0 (Kd.R k85 85 w' w.heap.size (fun _ => True) (.slice Ao27 t422.length co27) t422) ∧ Aside0 (w'.heap[gb412]? = some (.cells #[.int .i64 a0_0, .int .i64 a0_1, .int .i64 a0_2, .string a0_3, (.slice A0_4 l0_4.length c0_4)] 29 (0, 0))) ∧ Aside0 (w'.heap[gb413]? = some (.cells #[.int .i64 a1_0, .int .i64 a1_1, .int .i64 a1_2, .int .i64 a1_3] 98 (0, 0))) ∧ Aside0 (Below w.heap.size w w'))
     case atStart => exact ⟨(x7_16), (0), rz, H', ⟨Nat.le_refl _⟩, ⟨hr HO_7.out⟩, ⟨hr HO424.out⟩, ⟨kz BK412⟩, ⟨kz BK413⟩, ⟨bzs⟩⟩
     case round =>
      clear H'; (try clear c1); (try clear c2); (try clear p2); (try clear p4); (try clear q4); (try clear hx4); (try clear qi4); (try clear c7); (try clear c9); (try clear c9b0); (try clear c9b1); (try clear c10); (try clear c12); (try clear c12b0); (try clear c12b1); (try clear c14); (try clear c18); (try clear c19); (try clear c20); (try clear c24); (try clear hcz21_0); (try clear hcz21_1); (try clear hcz21_2); (try clear hcz21_3); (try clear hcz21_4); (try clear hcz25_0); (try clear hcz25_1); (try clear hcz25_2); (try clear hcz25_3); (try clear hcz25_4); (try clear hfz21_0); (try clear hfz21_1); (try clear hfz21_2); (try clear hfz21_3); (try clear hfz21_4); (try clear hfz25_0); (try clear hfz25_1); (try clear hfz25_2); (try clear hfz25_3); (try clear hfz25_4); (try clear hx417_0); (try clear hx417_1); (try clear p2); (try clear p4); (try clear p417); (try clear q4); (try clear q417); obtain ⟨x7_3, x34_3, rfl, HA, HK3, HO_7, HO_32, BK412, BK413, HB⟩ := hrel
      cases gk with
      | zero => exact absurd HA.out (by simp [impl_piecesOf.l0])
      | succ k3 =>
       have H := HA.out; clear HA; simp only [impl_piecesOf.l0] at H
       by_cases c28 : x34_3 < (t422.length : Int)
       ·rw [if_pos c28] at H; have c28b0 := decide_eq_true c28; clear c28
        by_cases c29 : 0 ≤ x34_3
        ·rw [if_pos c29] at H; have c29b0 := decide_eq_true c29; clear c29
         by_cases c30 : x34_3 < (t422.length : Int)
         ·rw [if_pos c30] at H; have c30b0 := decide_eq_true c30; clear c30
          by_cases c31 : a2 = true
          ·subst c31; replace H := ift H
           by_cases c32 : x7_3.length < 8796093022208
           ·rw [if_pos c32] at H; have LMc32 := Aside0.mk c32; clear c32; obtain ⟨y427, hy427⟩ : ∃ y_ : List (S110), y_ = (x7_3 ++ [(⟨a0_0, x34_3⟩ : S110)]) := ⟨_, rfl⟩
            replace H : (impl_piecesOf.l0 k3 true y427 t422 (t422.length : Int) (wrap64 (x34_3 + 1)) a0_0 a0_1 a0_2 a0_3 l0_4 a1_0 a1_1 a1_2 a1_3) = some r := by first | (rw [hy427]; with_reducible exact H) | (have H2_ := (Option.bind_some _ _).symm.trans H; rw [hy427]; with_reducible exact H2_) | (have H2_ := (Option.bind_some _ _).symm.trans H; with_reducible exact H2_) | with_reducible exact H | (rw [hy427]; exact H) | exact H
            have Ny427 := Aside0.mk hy427; clear hy427; have H' := Aside0.mk H; clear H; have p425 : 0 ≤ (x34_3 : Int) := of_decide_eq_true az; have q425 : x34_3 < (t422.length : Int) := of_decide_eq_true az; obtain ⟨ad425, e425, hx425_0, hx425_1, hx425_2, hx425_3⟩ := at_T85 (Kd.R_reads' HO_32.out).2.2 x34_3 p425 q425
            cases e425
            replace p425 := eq_true p425; replace q425 := eq_true q425; go_wp2_with (first | ((with_reducible refine gt (some 9) rfl ?_); refine bx #[.int .i64 0, .int .i64 0, .int .i64 0, .int .i64 0] 85 ?_; intro gb426 hg w33 hbox hb; replace HO_7 := Aside0.mk (rbz HO_7 hb); replace HO_32 := Aside0.mk (Kd.R_below (Kd.R_elderB (hr HO_32.out) gb426 (Nat.le_of_eq hg.symm)) hb); have BK426 := Aside0.mk (hbox); have GW426 := Aside0.mk (gez HB hg); have GE426 := Aside0.mk (gez HB hg); replace HB := Aside0.mk (below_step bzs hb); have NB412_426 := Aside0.mk ((by rw [hg]; exact Nat.ne_of_lt (blk_lt (g := gb412) (o := .cells #[.int .i64 a0_0, .int .i64 a0_1, .int .i64 a0_2, .string a0_3, .slice A0_4 l0_4.length c0_4] 29 (0, 0)) (kz BK412)) : gb412 ≠ gb426)); have NB426_412 := Aside0.mk ((by rw [hg]; exact Nat.ne_of_gt (blk_lt (g := gb412) (o := .cells #[.int .i64 a0_0, .int .i64 a0_1, .int .i64 a0_2, .string a0_3, .slice A0_4 l0_4.length c0_4] 29 (0, 0)) (kz BK412)) : gb426 ≠ gb412)); replace BK412 := Aside0.mk (bbz BK412 hb); have NB413_426 := Aside0.mk ((by rw [hg]; exact Nat.ne_of_lt (blk_lt (g := gb413) (o := .cells #[.int .i64 a1_0, .int .i64 a1_1, .int .i64 a1_2, .int .i64 a1_3] 98 (0, 0)) (kz BK413)) : gb413 ≠ gb426)); have NB426_413 := Aside0.mk ((by rw [hg]; exact Nat.ne_of_gt (blk_lt (g := gb413) (o := .cells #[.int .i64 a1_0, .int .i64 a1_1, .int .i64 a1_2, .int .i64 a1_3] 98 (0, 0)) (kz BK413)) : gb426 ≠ gb413)); replace BK413 := Aside0.mk (bbz BK413 hb); clear hb hbox hg; have hnb34 := NB426_412.out; have hnc34 := NB412_426.out; have hnb35 := NB426_413.out; have hnc35 := NB413_426.out; obtain ⟨hcz36_0, hcz36_1, hcz36_2, hcz36_3, hfz36_0, hfz36_1, hfz36_2, hfz36_3⟩ := cells4 BK426; have hnb37 := NB412_413.out; have hnc37 := NB413_412.out; obtain ⟨hcz38_0, hcz38_1, hcz38_2, hcz38_3, hcz38_4, hfz38_0, hfz38_1, hfz38_2, hfz38_3, hfz38_4⟩ := cells5 BK412) | ((with_reducible refine gate_builtin (b := .append) (xs := #[.tmp 45, .tmp 50]) rfl ?_); at_builtin; refine Kd.R_append k110 (w0 := w) w.heap.size rfl (.tmp 45) (.tmp 50) 64 110 (.agg #[(.int .i64 0), (.int .i64 0)]) 16 rfl Try.underlying64 info110 rfl (by decide) (by omega) u7 x7_3 (⟨a0_0, x34_3⟩ : S110) [.int .i64 a0_0, .int .i64 x34_3] (fun _ => True) (fun _ => False) rfl (by first | (go_simp; done) | (go_simp; rfl)) ?aP (fun _ hk => hk.elim) ?aF ?aO ?aB ?aS ?aL ?_; (case aP => exact k110_mkM _ _ _ (⟨a0_0, x34_3⟩ : S110)); (case aB => exact bzs); (case aF => exact (fun _ _ => trivial)); (case aO => exact (hr (Kd.R_mono (Kd.R_far (p := ⟨gb426, 3, none⟩) (Kd.R_far (p := ⟨gb426, 2, none⟩) (Kd.R_far (p := ⟨gb426, 1, none⟩) (Kd.R_far (p := ⟨gb426, 0, none⟩) (Kd.R_types HO_7.out BK426.out (by decide)) (fun _ hk => hk.2) (.int .i64 ((rd_T85 t422 x34_3).f0.f0))) (fun _ hk => hk.2) (.int .i64 ((rd_T85 t422 x34_3).f0.f1))) (fun _ hk => hk.2) (.int .i64 ((rd_T85 t422 x34_3).f1.f0))) (fun _ hk => hk.2) (.int .i64 ((rd_T85 t422 x34_3).f1.f1))) (fun _ hk => trivial)))); (case aS => exact (below_size bzs)); (case aL => have := LMc32.out; omega); intro v428 w39 ho hb hg hat; rw [← Ny427.out] at ho; have n0_ := Aside0.mk (Kd.R_over' (hr (Kd.R_mono (Kd.R_far (p := ⟨gb426, 3, none⟩) (Kd.R_far (p := ⟨gb426, 2, none⟩) (Kd.R_far (p := ⟨gb426, 1, none⟩) (Kd.R_far (p := ⟨gb426, 0, none⟩) (Kd.R_mono HO_32.out (fun k_ hk => (⟨hk, hk.2⟩ : _ ∧ k_ ≠ gb426))) (fun _ hk => hk.2) (.int .i64 ((rd_T85 t422 x34_3).f0.f0))) (fun _ hk => hk.2) (.int .i64 ((rd_T85 t422 x34_3).f0.f1))) (fun _ hk => hk.2) (.int .i64 ((rd_T85 t422 x34_3).f1.f0))) (fun _ hk => hk.2) (.int .i64 ((rd_T85 t422 x34_3).f1.f1))) (fun _ h_ => h_.1))) (Kd.R_typed (hr (Kd.R_mono (Kd.R_far (p := ⟨gb426, 3, none⟩) (Kd.R_far (p := ⟨gb426, 2, none⟩) (Kd.R_far (p := ⟨gb426, 1, none⟩) (Kd.R_far (p := ⟨gb426, 0, none⟩) (Kd.R_types HO_7.out BK426.out (by decide)) (fun _ hk => hk.2) (.int .i64 ((rd_T85 t422 x34_3).f0.f0))) (fun _ hk => hk.2) (.int .i64 ((rd_T85 t422 x34_3).f0.f1))) (fun _ hk => hk.2) (.int .i64 ((rd_T85 t422 x34_3).f1.f0))) (fun _ hk => hk.2) (.int .i64 ((rd_T85 t422 x34_3).f1.f1))) (fun _ h_ => h_.1)))) (by decide) hg); have n1_ := Aside0.mk (blk_grown (g := gb412) (o := .cells #[.int .i64 a0_0, .int .i64 a0_1, .int .i64 a0_2, .string a0_3, .slice A0_4 l0_4.length c0_4] 29 (0, 0)) (kz BK412) hg (Kd.R_ne HO_7.out BK412.out (by decide))); have n2_ := Aside0.mk (blk_grown (g := gb413) (o := .cells #[.int .i64 a1_0, .int .i64 a1_1, .int .i64 a1_2, .int .i64 a1_3] 98 (0, 0)) (kz BK413) hg (Kd.R_ne HO_7.out BK413.out (by decide))); have n3_ := Aside0.mk (blk_grown (g := gb426) (o := .cells #[.int .i64 ((rd_T85 t422 x34_3).f0.f0), .int .i64 ((rd_T85 t422 x34_3).f0.f1), .int .i64 ((rd_T85 t422 x34_3).f1.f0), .int .i64 ((rd_T85 t422 x34_3).f1.f1)] 85 (0, 0)) (by (with_reducible repeat (first | refine blk_drewN ?_ _ | refine blk_drew ?_ | refine blk_alloc ?_ _)); refine blk_put (cs := #[.int .i64 ((rd_T85 t422 x34_3).f0.f0), .int .i64 ((rd_T85 t422 x34_3).f0.f1), .int .i64 ((rd_T85 t422 x34_3).f1.f0), .int .i64 0]) ?_ 3 _ rfl; (with_reducible repeat (first | refine blk_drewN ?_ _ | refine blk_drew ?_ | refine blk_alloc ?_ _)); refine blk_put (cs := #[.int .i64 ((rd_T85 t422 x34_3).f0.f0), .int .i64 ((rd_T85 t422 x34_3).f0.f1), .int .i64 0, .int .i64 0]) ?_ 2 _ rfl; (with_reducible repeat (first | refine blk_drewN ?_ _ | refine blk_drew ?_ | refine blk_alloc ?_ _)); refine blk_put (cs := #[.int .i64 ((rd_T85 t422 x34_3).f0.f0), .int .i64 0, .int .i64 0, .int .i64 0]) ?_ 1 _ rfl; (with_reducible repeat (first | refine blk_drewN ?_ _ | refine blk_drew ?_ | refine blk_alloc ?_ _)); refine blk_put (cs := #[.int .i64 0, .int .i64 0, .int .i64 0, .int .i64 0]) ?_ 0 _ rfl; (with_reducible repeat (first | refine blk_drewN ?_ _ | refine blk_drew ?_ | refine blk_alloc ?_ _)); exact BK426.out) hg (Kd.R_ne HO_7.out BK426.out (by decide))); have n4_ := Aside0.mk (hb); have n5_ := Aside0.mk (ho); clear HO_32; clear BK412; clear BK413; clear BK426; clear HB; clear HO_7; have HO_32 := n0_; have BK412 := n1_; have BK413 := n2_; have BK426 := n3_; have HB := n4_; have HO429 := n5_; clear n0_ n1_ n2_ n3_ n4_ n5_; clear ho hb hg hat))
            go_roundg k3
            case measure => have := HJ3.out; have := HJ16.out; have := HK3.out; omega
            case rel => exact ⟨(y427), (wrap64 (x34_3 + 1)), rz, H', ⟨by have := HJ3.out; have := HJ16.out; have := HK3.out; omega⟩, ⟨hr HO429.out⟩, ⟨hr (Kd.R_mono HO_32.out (fun _ hk => trivial))⟩, ⟨kz BK412⟩, ⟨kz BK413⟩, ⟨bzs⟩⟩
           ·rw [if_neg c32] at H
            exact absurd H (by simp)
          ·replace c31 := Bool.eq_false_iff.mpr c31; subst c31; replace H := iff_ H; replace H := Option.bind_eq_some_iff.mp H; obtain ⟨t430, A400, H⟩ := H; have A40 := Aside0.mk A400; clear A400
           by_cases c41 : t430 = true
           ·subst c41; replace H := ift H
            by_cases c42 : x7_3.length < 8796093022208
            ·rw [if_pos c42] at H; have LMc42 := Aside0.mk c42; clear c42; obtain ⟨y431, hy431⟩ : ∃ y_ : List (S110), y_ = (x7_3 ++ [(⟨a0_0, x34_3⟩ : S110)]) := ⟨_, rfl⟩
             replace H : (impl_piecesOf.l0 k3 false y431 t422 (t422.length : Int) (wrap64 (x34_3 + 1)) a0_0 a0_1 a0_2 a0_3 l0_4 a1_0 a1_1 a1_2 a1_3) = some r := by first | (rw [hy431]; with_reducible exact H) | (have H2_ := (Option.bind_some _ _).symm.trans H; rw [hy431]; with_reducible exact H2_) | (have H2_ := (Option.bind_some _ _).symm.trans H; with_reducible exact H2_) | with_reducible exact H | (rw [hy431]; exact H) | exact H
             have Ny431 := Aside0.mk hy431; clear hy431; have H' := Aside0.mk H; clear H; have p425 : 0 ≤ (x34_3 : Int) := of_decide_eq_true az; have q425 : x34_3 < (t422.length : Int) := of_decide_eq_true az; obtain ⟨ad425, e425, hx425_0, hx425_1, hx425_2, hx425_3⟩ := at_T85 (Kd.R_reads' HO_32.out).2.2 x34_3 p425 q425
             cases e425
             replace p425 := eq_true p425; replace q425 := eq_true q425; go_wp2_with (first | ((with_reducible refine gt (some 9) rfl ?_); refine bx #[.int .i64 0, .int .i64 0, .int .i64 0, .int .i64 0] 85 ?_; intro gb426 hg w43 hbox hb; replace HO_7 := Aside0.mk (rbz HO_7 hb); replace HO_32 := Aside0.mk (Kd.R_below (Kd.R_elderB (hr HO_32.out) gb426 (Nat.le_of_eq hg.symm)) hb); have BK426 := Aside0.mk (hbox); have GW426 := Aside0.mk (gez HB hg); have GE426 := Aside0.mk (gez HB hg); replace HB := Aside0.mk (below_step bzs hb); have NB412_426 := Aside0.mk ((by rw [hg]; exact Nat.ne_of_lt (blk_lt (g := gb412) (o := .cells #[.int .i64 a0_0, .int .i64 a0_1, .int .i64 a0_2, .string a0_3, .slice A0_4 l0_4.length c0_4] 29 (0, 0)) (kz BK412)) : gb412 ≠ gb426)); have NB426_412 := Aside0.mk ((by rw [hg]; exact Nat.ne_of_gt (blk_lt (g := gb412) (o := .cells #[.int .i64 a0_0, .int .i64 a0_1, .int .i64 a0_2, .string a0_3, .slice A0_4 l0_4.length c0_4] 29 (0, 0)) (kz BK412)) : gb426 ≠ gb412)); replace BK412 := Aside0.mk (bbz BK412 hb); have NB413_426 := Aside0.mk ((by rw [hg]; exact Nat.ne_of_lt (blk_lt (g := gb413) (o := .cells #[.int .i64 a1_0, .int .i64 a1_1, .int .i64 a1_2, .int .i64 a1_3] 98 (0, 0)) (kz BK413)) : gb413 ≠ gb426)); have NB426_413 := Aside0.mk ((by rw [hg]; exact Nat.ne_of_gt (blk_lt (g := gb413) (o := .cells #[.int .i64 a1_0, .int .i64 a1_1, .int .i64 a1_2, .int .i64 a1_3] 98 (0, 0)) (kz BK413)) : gb426 ≠ gb413)); replace BK413 := Aside0.mk (bbz BK413 hb); clear hb hbox hg; have hnb44 := NB426_412.out; have hnc44 := NB412_426.out; have hnb45 := NB426_413.out; have hnc45 := NB413_426.out; obtain ⟨hcz46_0, hcz46_1, hcz46_2, hcz46_3, hfz46_0, hfz46_1, hfz46_2, hfz46_3⟩ := cells4 BK426; have hnb47 := NB413_412.out; have hnc47 := NB412_413.out; obtain ⟨hcz48_0, hcz48_1, hcz48_2, hcz48_3, hfz48_0, hfz48_1, hfz48_2, hfz48_3⟩ := cells4 BK413) | (go_at_call 144; (with_reducible refine (impl_MeetsBox.calls k3 ((rd_T85 t422 x34_3).f0.f0) ((rd_T85 t422 x34_3).f0.f1) ((rd_T85 t422 x34_3).f1.f0) ((rd_T85 t422 x34_3).f1.f1) a1_0 a1_1 a1_2 a1_3 true _ A40.out).mono ?_); rintro e w49 ⟨rfl, hb⟩; replace HO_7 := Aside0.mk (Kd.R_below (hr (Kd.R_mono (Kd.R_far (p := ⟨gb426, 3, none⟩) (Kd.R_far (p := ⟨gb426, 2, none⟩) (Kd.R_far (p := ⟨gb426, 1, none⟩) (Kd.R_far (p := ⟨gb426, 0, none⟩) (Kd.R_types HO_7.out BK426.out (by decide)) (fun _ hk => hk.2) (.int .i64 ((rd_T85 t422 x34_3).f0.f0))) (fun _ hk => hk.2) (.int .i64 ((rd_T85 t422 x34_3).f0.f1))) (fun _ hk => hk.2) (.int .i64 ((rd_T85 t422 x34_3).f1.f0))) (fun _ hk => hk.2) (.int .i64 ((rd_T85 t422 x34_3).f1.f1))) (fun _ h_ => h_.1))) hb); replace HO_32 := Aside0.mk (Kd.R_below (hr (Kd.R_mono (Kd.R_far (p := ⟨gb426, 3, none⟩) (Kd.R_far (p := ⟨gb426, 2, none⟩) (Kd.R_far (p := ⟨gb426, 1, none⟩) (Kd.R_far (p := ⟨gb426, 0, none⟩) (Kd.R_mono HO_32.out (fun k_ hk => (⟨hk, hk.2⟩ : _ ∧ k_ ≠ gb426))) (fun _ hk => hk.2) (.int .i64 ((rd_T85 t422 x34_3).f0.f0))) (fun _ hk => hk.2) (.int .i64 ((rd_T85 t422 x34_3).f0.f1))) (fun _ hk => hk.2) (.int .i64 ((rd_T85 t422 x34_3).f1.f0))) (fun _ hk => hk.2) (.int .i64 ((rd_T85 t422 x34_3).f1.f1))) (fun _ h_ => h_.1))) hb); replace BK412 := Aside0.mk (bbz BK412 hb); replace BK413 := Aside0.mk (bbz BK413 hb); replace BK426 := Aside0.mk (blk_below (g := gb426) (o := .cells #[.int .i64 ((rd_T85 t422 x34_3).f0.f0), .int .i64 ((rd_T85 t422 x34_3).f0.f1), .int .i64 ((rd_T85 t422 x34_3).f1.f0), .int .i64 ((rd_T85 t422 x34_3).f1.f1)] 85 (0, 0)) (by (with_reducible repeat (first | refine blk_drewN ?_ _ | refine blk_drew ?_ | refine blk_alloc ?_ _)); refine blk_put (cs := #[.int .i64 ((rd_T85 t422 x34_3).f0.f0), .int .i64 ((rd_T85 t422 x34_3).f0.f1), .int .i64 ((rd_T85 t422 x34_3).f1.f0), .int .i64 0]) ?_ 3 _ rfl; (with_reducible repeat (first | refine blk_drewN ?_ _ | refine blk_drew ?_ | refine blk_alloc ?_ _)); refine blk_put (cs := #[.int .i64 ((rd_T85 t422 x34_3).f0.f0), .int .i64 ((rd_T85 t422 x34_3).f0.f1), .int .i64 0, .int .i64 0]) ?_ 2 _ rfl; (with_reducible repeat (first | refine blk_drewN ?_ _ | refine blk_drew ?_ | refine blk_alloc ?_ _)); refine blk_put (cs := #[.int .i64 ((rd_T85 t422 x34_3).f0.f0), .int .i64 0, .int .i64 0, .int .i64 0]) ?_ 1 _ rfl; (with_reducible repeat (first | refine blk_drewN ?_ _ | refine blk_drew ?_ | refine blk_alloc ?_ _)); refine blk_put (cs := #[.int .i64 0, .int .i64 0, .int .i64 0, .int .i64 0]) ?_ 0 _ rfl; (with_reducible repeat (first | refine blk_drewN ?_ _ | refine blk_drew ?_ | refine blk_alloc ?_ _)); exact BK426.out) hb); replace HB := Aside0.mk (below_step bzs hb); (try clear hb); obtain ⟨hcz50_0, hcz50_1, hcz50_2, hcz50_3, hcz50_4, hfz50_0, hfz50_1, hfz50_2, hfz50_3, hfz50_4⟩ := cells5 BK412) | ((with_reducible refine gate_builtin (b := .append) (xs := #[.tmp 45, .tmp 50]) rfl ?_); at_builtin; refine Kd.R_append k110 (w0 := w) w.heap.size rfl (.tmp 45) (.tmp 50) 64 110 (.agg #[(.int .i64 0), (.int .i64 0)]) 16 rfl Try.underlying64 info110 rfl (by decide) (by omega) u7 x7_3 (⟨a0_0, x34_3⟩ : S110) [.int .i64 a0_0, .int .i64 x34_3] (fun _ => True) (fun _ => False) rfl rfl ?aP (fun _ hk => hk.elim) ?aF ?aO ?aB ?aS ?aL ?_; (case aP => exact k110_mkM _ _ _ (⟨a0_0, x34_3⟩ : S110)); (case aB => exact bzs); (case aF => exact (fun _ _ => trivial)); (case aO => exact (hr HO_7.out)); (case aS => exact (below_size bzs)); (case aL => have := LMc42.out; omega); intro v432 w51 ho hb hg hat; rw [← Ny431.out] at ho; have n0_ := Aside0.mk (Kd.R_over' (hr HO_32.out) (Kd.R_typed (hr HO_7.out)) (by decide) hg); have n1_ := Aside0.mk (blk_grown (g := gb412) (o := .cells #[.int .i64 a0_0, .int .i64 a0_1, .int .i64 a0_2, .string a0_3, .slice A0_4 l0_4.length c0_4] 29 (0, 0)) (kz BK412) hg (Kd.R_ne HO_7.out BK412.out (by decide))); have n2_ := Aside0.mk (blk_grown (g := gb413) (o := .cells #[.int .i64 a1_0, .int .i64 a1_1, .int .i64 a1_2, .int .i64 a1_3] 98 (0, 0)) (kz BK413) hg (Kd.R_ne HO_7.out BK413.out (by decide))); have n3_ := Aside0.mk (blk_grown (g := gb426) (o := .cells #[.int .i64 ((rd_T85 t422 x34_3).f0.f0), .int .i64 ((rd_T85 t422 x34_3).f0.f1), .int .i64 ((rd_T85 t422 x34_3).f1.f0), .int .i64 ((rd_T85 t422 x34_3).f1.f1)] 85 (0, 0)) (kz BK426) hg (Kd.R_ne HO_7.out BK426.out (by decide))); have n4_ := Aside0.mk (hb); have n5_ := Aside0.mk (ho); clear HO_32; clear BK412; clear BK413; clear BK426; clear HB; clear HO_7; have HO_32 := n0_; have BK412 := n1_; have BK413 := n2_; have BK426 := n3_; have HB := n4_; have HO433 := n5_; clear n0_ n1_ n2_ n3_ n4_ n5_; clear ho hb hg hat))
             go_roundg k3
             case measure => have := HJ3.out; have := HJ16.out; have := HK3.out; omega
             case rel => exact ⟨(y431), (wrap64 (x34_3 + 1)), rz, H', ⟨by have := HJ3.out; have := HJ16.out; have := HK3.out; omega⟩, ⟨hr HO433.out⟩, ⟨hr (Kd.R_mono HO_32.out (fun _ hk => trivial))⟩, ⟨kz BK412⟩, ⟨kz BK413⟩, ⟨bzs⟩⟩
            ·rw [if_neg c42] at H
             exact absurd H (by simp)
           ·replace c41 := Bool.eq_false_iff.mpr c41; subst c41; replace H := iff_ H; have H' := Aside0.mk H; clear H; have p425 : 0 ≤ (x34_3 : Int) := of_decide_eq_true az; have q425 : x34_3 < (t422.length : Int) := of_decide_eq_true az; obtain ⟨ad425, e425, hx425_0, hx425_1, hx425_2, hx425_3⟩ := at_T85 (Kd.R_reads' HO_32.out).2.2 x34_3 p425 q425
            cases e425
            replace p425 := eq_true p425; replace q425 := eq_true q425; go_wp2_with (first | ((with_reducible refine gt (some 9) rfl ?_); refine bx #[.int .i64 0, .int .i64 0, .int .i64 0, .int .i64 0] 85 ?_; intro gb426 hg w52 hbox hb; replace HO_7 := Aside0.mk (rbz HO_7 hb); replace HO_32 := Aside0.mk (Kd.R_below (Kd.R_elderB (hr HO_32.out) gb426 (Nat.le_of_eq hg.symm)) hb); have BK426 := Aside0.mk (hbox); have GW426 := Aside0.mk (gez HB hg); have GE426 := Aside0.mk (gez HB hg); replace HB := Aside0.mk (below_step bzs hb); have NB412_426 := Aside0.mk ((by rw [hg]; exact Nat.ne_of_lt (blk_lt (g := gb412) (o := .cells #[.int .i64 a0_0, .int .i64 a0_1, .int .i64 a0_2, .string a0_3, .slice A0_4 l0_4.length c0_4] 29 (0, 0)) (kz BK412)) : gb412 ≠ gb426)); have NB426_412 := Aside0.mk ((by rw [hg]; exact Nat.ne_of_gt (blk_lt (g := gb412) (o := .cells #[.int .i64 a0_0, .int .i64 a0_1, .int .i64 a0_2, .string a0_3, .slice A0_4 l0_4.length c0_4] 29 (0, 0)) (kz BK412)) : gb426 ≠ gb412)); replace BK412 := Aside0.mk (bbz BK412 hb); have NB413_426 := Aside0.mk ((by rw [hg]; exact Nat.ne_of_lt (blk_lt (g := gb413) (o := .cells #[.int .i64 a1_0, .int .i64 a1_1, .int .i64 a1_2, .int .i64 a1_3] 98 (0, 0)) (kz BK413)) : gb413 ≠ gb426)); have NB426_413 := Aside0.mk ((by rw [hg]; exact Nat.ne_of_gt (blk_lt (g := gb413) (o := .cells #[.int .i64 a1_0, .int .i64 a1_1, .int .i64 a1_2, .int .i64 a1_3] 98 (0, 0)) (kz BK413)) : gb426 ≠ gb413)); replace BK413 := Aside0.mk (bbz BK413 hb); clear hb hbox hg; have hnb53 := NB426_412.out; have hnc53 := NB412_426.out; have hnb54 := NB426_413.out; have hnc54 := NB413_426.out; obtain ⟨hcz55_0, hcz55_1, hcz55_2, hcz55_3, hfz55_0, hfz55_1, hfz55_2, hfz55_3⟩ := cells4 BK426; have hnb56 := NB413_412.out; have hnc56 := NB412_413.out; obtain ⟨hcz57_0, hcz57_1, hcz57_2, hcz57_3, hfz57_0, hfz57_1, hfz57_2, hfz57_3⟩ := cells4 BK413) | (go_at_call 144; (with_reducible refine (impl_MeetsBox.calls k3 ((rd_T85 t422 x34_3).f0.f0) ((rd_T85 t422 x34_3).f0.f1) ((rd_T85 t422 x34_3).f1.f0) ((rd_T85 t422 x34_3).f1.f1) a1_0 a1_1 a1_2 a1_3 false _ A40.out).mono ?_); rintro e w58 ⟨rfl, hb⟩; replace HO_7 := Aside0.mk (Kd.R_below (hr (Kd.R_mono (Kd.R_far (p := ⟨gb426, 3, none⟩) (Kd.R_far (p := ⟨gb426, 2, none⟩) (Kd.R_far (p := ⟨gb426, 1, none⟩) (Kd.R_far (p := ⟨gb426, 0, none⟩) (Kd.R_types HO_7.out BK426.out (by decide)) (fun _ hk => hk.2) (.int .i64 ((rd_T85 t422 x34_3).f0.f0))) (fun _ hk => hk.2) (.int .i64 ((rd_T85 t422 x34_3).f0.f1))) (fun _ hk => hk.2) (.int .i64 ((rd_T85 t422 x34_3).f1.f0))) (fun _ hk => hk.2) (.int .i64 ((rd_T85 t422 x34_3).f1.f1))) (fun _ h_ => h_.1))) hb); replace HO_32 := Aside0.mk (Kd.R_below (hr (Kd.R_mono (Kd.R_far (p := ⟨gb426, 3, none⟩) (Kd.R_far (p := ⟨gb426, 2, none⟩) (Kd.R_far (p := ⟨gb426, 1, none⟩) (Kd.R_far (p := ⟨gb426, 0, none⟩) (Kd.R_mono HO_32.out (fun k_ hk => (⟨hk, hk.2⟩ : _ ∧ k_ ≠ gb426))) (fun _ hk => hk.2) (.int .i64 ((rd_T85 t422 x34_3).f0.f0))) (fun _ hk => hk.2) (.int .i64 ((rd_T85 t422 x34_3).f0.f1))) (fun _ hk => hk.2) (.int .i64 ((rd_T85 t422 x34_3).f1.f0))) (fun _ hk => hk.2) (.int .i64 ((rd_T85 t422 x34_3).f1.f1))) (fun _ h_ => h_.1))) hb); replace BK412 := Aside0.mk (bbz BK412 hb); replace BK413 := Aside0.mk (bbz BK413 hb); replace BK426 := Aside0.mk (blk_below (g := gb426) (o := .cells #[.int .i64 ((rd_T85 t422 x34_3).f0.f0), .int .i64 ((rd_T85 t422 x34_3).f0.f1), .int .i64 ((rd_T85 t422 x34_3).f1.f0), .int .i64 ((rd_T85 t422 x34_3).f1.f1)] 85 (0, 0)) (by (with_reducible repeat (first | refine blk_drewN ?_ _ | refine blk_drew ?_ | refine blk_alloc ?_ _)); refine blk_put (cs := #[.int .i64 ((rd_T85 t422 x34_3).f0.f0), .int .i64 ((rd_T85 t422 x34_3).f0.f1), .int .i64 ((rd_T85 t422 x34_3).f1.f0), .int .i64 0]) ?_ 3 _ rfl; (with_reducible repeat (first | refine blk_drewN ?_ _ | refine blk_drew ?_ | refine blk_alloc ?_ _)); refine blk_put (cs := #[.int .i64 ((rd_T85 t422 x34_3).f0.f0), .int .i64 ((rd_T85 t422 x34_3).f0.f1), .int .i64 0, .int .i64 0]) ?_ 2 _ rfl; (with_reducible repeat (first | refine blk_drewN ?_ _ | refine blk_drew ?_ | refine blk_alloc ?_ _)); refine blk_put (cs := #[.int .i64 ((rd_T85 t422 x34_3).f0.f0), .int .i64 0, .int .i64 0, .int .i64 0]) ?_ 1 _ rfl; (with_reducible repeat (first | refine blk_drewN ?_ _ | refine blk_drew ?_ | refine blk_alloc ?_ _)); refine blk_put (cs := #[.int .i64 0, .int .i64 0, .int .i64 0, .int .i64 0]) ?_ 0 _ rfl; (with_reducible repeat (first | refine blk_drewN ?_ _ | refine blk_drew ?_ | refine blk_alloc ?_ _)); exact BK426.out) hb); replace HB := Aside0.mk (below_step bzs hb); (try clear hb)))
            go_roundg k3
            case measure => have := HJ3.out; have := HJ16.out; have := HK3.out; omega
            case rel => exact ⟨(x7_3), (wrap64 (x34_3 + 1)), rz, H', ⟨by have := HJ3.out; have := HJ16.out; have := HK3.out; omega⟩, ⟨hr HO_7.out⟩, ⟨hr (Kd.R_mono HO_32.out (fun _ hk => trivial))⟩, ⟨kz BK412⟩, ⟨kz BK413⟩, ⟨bzs⟩⟩
         ·rw [if_neg c30] at H
          exact absurd H (by simp)
        ·rw [if_neg c29] at H
         exact absurd H (by simp)
       ·rw [if_neg c28] at H; have c28b0 := decide_eq_false c28; clear c28; obtain rfl := Option.some.inj H; go_wp2; go_ret
        exact ⟨_, ez, hr HO_7.out, bzs⟩

end Go.Proofs.Ytdfehjfmihokpaa.PFnExactAllPieces

namespace Go.Proofs.Ytdfehjfmihokpaa.PFnExactAllPieces
open Go.RowKit Go.Proofs.YtdfehjfmihokpaaW.PrintWords Go.Proofs.YtdfehjfmihokpaaW.PrintLast Go.Proofs.YtdfehjfmihokpaaW.PrintMore Go.Proofs.YtdfehjfmihokpaaGeo Go.Proofs.YtdfehjfmihokpaaHand Go.Proofs.YtdfehjfmihokpaaMeet Go.Proofs.YtdfehjfmihokpaaQuiet Go.Proofs.YtdfehjfmihokpaaZ
attribute [local go_sem] max2_int min2_int max_two min_two max_three min_three max_four min_four   -- for this text's walks alone
set_option linter.unusedVariables false
set_option linter.unusedSimpArgs false

/-! ### impl_AllPieces: function 48 -/
def impl_AllPieces.l0 : Nat → List (S110) → List (S29) → Int → Int → Option ((List (S110)))
 | 0, _, _, _, _ => none
 | k + 1, x3, x11, x12, x13 => if x13 < x12 then (if 0 ≤ x13 then (if x13 < (x11.length : Int) then ((impl_piecesOf.f k ((rd_T29 x11 x13).f0) ((rd_T29 x11 x13).f1) ((rd_T29 x11 x13).f2) ((rd_T29 x11 x13).f3) ((rd_T29 x11 x13).f4) 0 0 0 0 true).bind fun t440 => (if x3.length + t440.length < 8796093022208 then (impl_AllPieces.l0 k (x3 ++ t440) x11 x12 (wrap64 (x13 + 1))) else (none))) else (none)) else (none)) else (some x3)
def impl_AllPieces.f (k : Nat) (l0 : List (S29)) : Option ((List (S110))) := (some (([] : List (S110)) : List (S110))).bind fun y434 => ((impl_IsSource.f k l0).bind fun t437 => (if t437 = true then (impl_AllPieces.l0 k y434 l0 (l0.length : Int) 0) else (some y434)))
theorem impl_AllPieces.mono_l : ∀ k, (∀ y0 y1 y2 y3, LeO (impl_AllPieces.l0 k y0 y1 y2 y3) (impl_AllPieces.l0 (k + 1) y0 y1 y2 y3))
 | 0 => fun _ _ _ _ r h => by simp [impl_AllPieces.l0] at h
 | k + 1 => by
  have ih0 := impl_AllPieces.mono_l k
  ·intro y0 y1 y2 y3
   unfold impl_AllPieces.l0
   repeat' first | (with_reducible first | exact ih0 _ _ _ _ | exact impl_IsSource.mono _ _ | exact impl_piecesOf.mono _ _ _ _ _ _ _ _ _ _ _ | exact LeO.refl _ | exact LeO.none _ | refine LeO.ite ?_ ?_ | refine LeO.bind ?_ (fun _ => ?_)) | exact ih0 _ _ _ _ | exact impl_IsSource.mono _ _ | exact impl_piecesOf.mono _ _ _ _ _ _ _ _ _ _ _ | exact LeO.none _ | refine LeO.ite ?_ ?_ | refine LeO.bind ?_ (fun _ => ?_)
theorem impl_AllPieces.mono : ∀ a0 k, LeO (impl_AllPieces.f k a0) (impl_AllPieces.f (k + 1) a0) := by
 intro a0 k; have ih0 := impl_AllPieces.mono_l k
 unfold impl_AllPieces.f
 repeat' first | (with_reducible first | exact ih0 _ _ _ _ | exact impl_IsSource.mono _ _ | exact impl_piecesOf.mono _ _ _ _ _ _ _ _ _ _ _ | exact LeO.refl _ | exact LeO.none _ | refine LeO.ite ?_ ?_ | refine LeO.bind ?_ (fun _ => ?_)) | exact ih0 _ _ _ _ | exact impl_IsSource.mono _ _ | exact impl_piecesOf.mono _ _ _ _ _ _ _ _ _ _ _ | exact LeO.none _ | refine LeO.ite ?_ ?_ | refine LeO.bind ?_ (fun _ => ?_)
set_option maxHeartbeats 8000000 in
set_option maxRecDepth 100000 in
theorem impl_AllPieces.calls (k : Nat) (A0 : Option Addr) (c0 : Nat) (l0 : List (S29)) (r : List (S110)) (w : World) (hr0 : Kd.C k29 w A0 l0.length l0) (hc0 : l0.length ≤ c0) (h : impl_AllPieces.f k l0 = some r) :
  Calls Try.prog 48 #[.slice A0 l0.length c0] w fun e w' => ∃ v0_ : Value, e = .returned (v0_) ∧ Kd.R k110 110 w' w.heap.size (fun _ => True) v0_ r ∧ Below w.heap.size w w' := by
 have hu29 := Try.underlying29; have hu98 := Try.underlying98; have HR0 := Aside0.mk hr0; have HC0 := Aside0.mk hc0; clear hr0 hc0; have HB := Aside0.mk (Below.refl w.heap.size w); have H : ((some (([] : List (S110)) : List (S110))).bind fun y434 => ((impl_IsSource.f k l0).bind fun t437 => (if t437 = true then (impl_AllPieces.l0 k y434 l0 (l0.length : Int) 0) else (some y434)))) = some r := h; clear h; obtain ⟨y434, hy434⟩ : ∃ y_ : List (S110), y_ = (([] : List (S110))) := ⟨_, rfl⟩
 replace H : ((impl_IsSource.f k l0).bind fun t437 => (if t437 = true then (impl_AllPieces.l0 k y434 l0 (l0.length : Int) 0) else (some y434))) = some r := by first | (rw [hy434]; with_reducible exact H) | (have H2_ := (Option.bind_some _ _).symm.trans H; rw [hy434]; with_reducible exact H2_) | (have H2_ := (Option.bind_some _ _).symm.trans H; with_reducible exact H2_) | with_reducible exact H | (rw [hy434]; exact H) | exact H
 have Ny434 := Aside0.mk hy434; clear hy434; replace H := Option.bind_eq_some_iff.mp H; obtain ⟨t437, A20, H⟩ := H; have A2 := Aside0.mk A20; clear A20
 by_cases c3 : t437 = true
 ·subst c3; replace H := ift H; have H' := Aside0.mk H; clear H
  go_enter Try.func48, Try.ntmps48; go_wp2_with (first | ((with_reducible refine gate_dst (N := 6) rfl ?_); refine Kd.R_lit k110 _ 110 ?hg (N := 6) ?hd (xs := ([] : List (S110))) (inner := []) (ok := fun _ => True) (okp := fun _ => True) ?hr ?hp (fun _ hk => hk) trivial (Below.refl _ _) (Nat.le_refl _) (by simp) ?_; (case hd => rfl); (case hg => rfl); (case hr => first | (go_simp; done) | (go_simp; rfl)); (case hp => exact (Reps.none _ _)); intro v435 w4 ho5 hb hg_ hnew_; clear hg_ hnew_; (first | rw [← Ny434.out] at ho5 | (simp only [Int.reduceToNat] at ho5; rw [← Ny434.out] at ho5)); have HO436 := Aside0.mk (Kd.R_lower ho5 (below_size bz)); replace HB := Aside0.mk (below_step bz hb); clear hb ho5) | ((with_reducible refine gt (some 8) rfl ?_); refine gc Try.func85 (impl_IsSource.calls k _ _ l0 true _ cz0 HC0.out A2.out) ?_; rintro e w6 ⟨rfl, hb⟩; refine ⟨_, rfl, ?_⟩; replace HO436 := Aside0.mk (rbz HO436 hb); replace HB := Aside0.mk (below_step bz hb); (try clear hb)))
  go_loopg [3, 13] k (fun kq v3 v13 w' => ∃ (x3_1 : List (S110)) (x13_1 : Int), v13 = .int .i64 x13_1 ∧ Aside0 (impl_AllPieces.l0 kq x3_1 l0 (l0.length : Int) x13_1 = some r) ∧ Aside0 (kq ≤ k) ∧ Aside0 (Kd.R k110 110 w' w.heap.size (fun _ => True) v3 x3_1) ∧ Aside0 (Below w.heap.size w w'))
  case atStart => exact ⟨(y434), (0), rz, H', ⟨Nat.le_refl _⟩, ⟨hr HO436.out⟩, ⟨bz⟩⟩
  case round =>
   clear H'; (try clear p2); (try clear c3); (try clear c4); obtain ⟨x3_1, x13_1, rfl, HA, HK1, HO_3, HB⟩ := hrel
   cases gk with
   | zero => exact absurd HA.out (by simp [impl_AllPieces.l0])
   | succ k1 =>
    have H := HA.out; clear HA; simp only [impl_AllPieces.l0] at H
    by_cases c7 : x13_1 < (l0.length : Int)
    ·rw [if_pos c7] at H; have c7b0 := decide_eq_true c7; clear c7
     by_cases c8 : 0 ≤ x13_1
     ·rw [if_pos c8] at H; have c8b0 := decide_eq_true c8; clear c8
      by_cases c9 : x13_1 < (l0.length : Int)
      ·rw [if_pos c9] at H; have c9b0 := decide_eq_true c9; clear c9; replace H := Option.bind_eq_some_iff.mp H; obtain ⟨t440, A100, H⟩ := H; have A10 := Aside0.mk A100; clear A100
       by_cases c11 : x3_1.length + t440.length < 8796093022208
       ·rw [if_pos c11] at H; have LMc11 := Aside0.mk c11; clear c11; obtain ⟨y443, hy443⟩ : ∃ y_ : List (S110), y_ = (x3_1 ++ t440) := ⟨_, rfl⟩
        replace H : (impl_AllPieces.l0 k1 y443 l0 (l0.length : Int) (wrap64 (x13_1 + 1))) = some r := by first | (rw [hy443]; with_reducible exact H) | (have H2_ := (Option.bind_some _ _).symm.trans H; rw [hy443]; with_reducible exact H2_) | (have H2_ := (Option.bind_some _ _).symm.trans H; with_reducible exact H2_) | with_reducible exact H | (rw [hy443]; exact H) | exact H
        have Ny443 := Aside0.mk hy443; clear hy443; have H' := Aside0.mk H; clear H; have p438 : 0 ≤ (x13_1 : Int) := of_decide_eq_true az; have q438 : x13_1 < (l0.length : Int) := of_decide_eq_true az; obtain ⟨ad438, A438_4, c438_4, e438, hx438_0, hx438_1, hx438_2, hx438_3, hx438_4, hl438_4, hi438_4⟩ := at_T29 HR0.out x13_1 p438 q438
        cases e438
        replace hx438_0 := xz HB hx438_0; replace hx438_1 := xz HB hx438_1; replace hx438_2 := xz HB hx438_2; replace hx438_3 := xz HB hx438_3; replace hx438_4 := xz HB hx438_4; have HR438_4 := Aside0.mk hi438_4; have HC438_4 := Aside0.mk hl438_4; clear hi438_4 hl438_4; replace p438 := eq_true p438; replace q438 := eq_true q438; go_wp2_with (first | ((with_reducible refine gt (some 5) rfl ?_); refine bx #[.int .i64 0, .int .i64 0, .int .i64 0, .string (⟨#[]⟩ : ByteArray), .slice none 0 0] 29 ?_; intro gb439 hg w12 hbox hb; replace HO_3 := Aside0.mk (rbz HO_3 hb); have BK439 := Aside0.mk (hbox); have GW439 := Aside0.mk (gez HB hg); have GE439 := Aside0.mk (gez HB hg); replace HB := Aside0.mk (below_step bz hb); clear hb hbox hg; obtain ⟨hcz13_0, hcz13_1, hcz13_2, hcz13_3, hcz13_4, hfz13_0, hfz13_1, hfz13_2, hfz13_3, hfz13_4⟩ := cells5 BK439) | ((with_reducible refine gt (some 20) rfl ?_); refine gc Try.func99 (impl_piecesOf.calls k1 ((rd_T29 l0 x13_1).f0) ((rd_T29 l0 x13_1).f1) ((rd_T29 l0 x13_1).f2) ((rd_T29 l0 x13_1).f3) _ _ ((rd_T29 l0 x13_1).f4) 0 0 0 0 true t440 _ (Kd.C_below HR438_4.out bzs) HC438_4.out A10.out) ?_; rintro e w14 ⟨v441, rfl, ho0, hb⟩; refine ⟨_, rfl, ?_⟩; have HO442 := Aside0.mk (Kd.R_lower (Kd.R_new' ho0 (Kd.R_lt (hr (Kd.R_mono (Kd.R_far (p := ⟨gb439, 4, none⟩) (Kd.R_far (p := ⟨gb439, 3, none⟩) (Kd.R_far (p := ⟨gb439, 2, none⟩) (Kd.R_far (p := ⟨gb439, 1, none⟩) (Kd.R_far (p := ⟨gb439, 0, none⟩) (Kd.R_types HO_3.out BK439.out (by decide)) (fun _ hk => hk.2) (.int .i64 ((rd_T29 l0 x13_1).f0))) (fun _ hk => hk.2) (.int .i64 ((rd_T29 l0 x13_1).f1))) (fun _ hk => hk.2) (.int .i64 ((rd_T29 l0 x13_1).f2))) (fun _ hk => hk.2) (.string ((rd_T29 l0 x13_1).f3))) (fun _ hk => hk.2) (.slice A438_4 ((rd_T29 l0 x13_1).f4).length c438_4)) (fun _ h_ => h_.1))))) (below_size bzs)); replace HO_3 := Aside0.mk (Kd.R_elder' (hr (Kd.R_mono (Kd.R_far (p := ⟨gb439, 4, none⟩) (Kd.R_far (p := ⟨gb439, 3, none⟩) (Kd.R_far (p := ⟨gb439, 2, none⟩) (Kd.R_far (p := ⟨gb439, 1, none⟩) (Kd.R_far (p := ⟨gb439, 0, none⟩) (Kd.R_types HO_3.out BK439.out (by decide)) (fun _ hk => hk.2) (.int .i64 ((rd_T29 l0 x13_1).f0))) (fun _ hk => hk.2) (.int .i64 ((rd_T29 l0 x13_1).f1))) (fun _ hk => hk.2) (.int .i64 ((rd_T29 l0 x13_1).f2))) (fun _ hk => hk.2) (.string ((rd_T29 l0 x13_1).f3))) (fun _ hk => hk.2) (.slice A438_4 ((rd_T29 l0 x13_1).f4).length c438_4)) (fun _ h_ => h_.1))) (Kd.R_base ho0) hb); replace BK439 := Aside0.mk (blk_below (g := gb439) (o := .cells #[.int .i64 ((rd_T29 l0 x13_1).f0), .int .i64 ((rd_T29 l0 x13_1).f1), .int .i64 ((rd_T29 l0 x13_1).f2), .string ((rd_T29 l0 x13_1).f3), .slice A438_4 ((rd_T29 l0 x13_1).f4).length c438_4] 29 (0, 0)) (by (with_reducible repeat (first | refine blk_drewN ?_ _ | refine blk_drew ?_ | refine blk_alloc ?_ _)); refine blk_put (cs := #[.int .i64 ((rd_T29 l0 x13_1).f0), .int .i64 ((rd_T29 l0 x13_1).f1), .int .i64 ((rd_T29 l0 x13_1).f2), .string ((rd_T29 l0 x13_1).f3), .slice none 0 0]) ?_ 4 _ rfl; (with_reducible repeat (first | refine blk_drewN ?_ _ | refine blk_drew ?_ | refine blk_alloc ?_ _)); refine blk_put (cs := #[.int .i64 ((rd_T29 l0 x13_1).f0), .int .i64 ((rd_T29 l0 x13_1).f1), .int .i64 ((rd_T29 l0 x13_1).f2), .string (⟨#[]⟩ : ByteArray), .slice none 0 0]) ?_ 3 _ rfl; (with_reducible repeat (first | refine blk_drewN ?_ _ | refine blk_drew ?_ | refine blk_alloc ?_ _)); refine blk_put (cs := #[.int .i64 ((rd_T29 l0 x13_1).f0), .int .i64 ((rd_T29 l0 x13_1).f1), .int .i64 0, .string (⟨#[]⟩ : ByteArray), .slice none 0 0]) ?_ 2 _ rfl; (with_reducible repeat (first | refine blk_drewN ?_ _ | refine blk_drew ?_ | refine blk_alloc ?_ _)); refine blk_put (cs := #[.int .i64 ((rd_T29 l0 x13_1).f0), .int .i64 0, .int .i64 0, .string (⟨#[]⟩ : ByteArray), .slice none 0 0]) ?_ 1 _ rfl; (with_reducible repeat (first | refine blk_drewN ?_ _ | refine blk_drew ?_ | refine blk_alloc ?_ _)); refine blk_put (cs := #[.int .i64 0, .int .i64 0, .int .i64 0, .string (⟨#[]⟩ : ByteArray), .slice none 0 0]) ?_ 0 _ rfl; (with_reducible repeat (first | refine blk_drewN ?_ _ | refine blk_drew ?_ | refine blk_alloc ?_ _)); exact BK439.out) hb); replace HB := Aside0.mk (below_step bzs hb); (try clear ho0); obtain ⟨Ao16, co16, eo16⟩ := Kd.R_slice HO442.out; subst eo16) | ((with_reducible refine gate_builtin (b := .append) (xs := #[.tmp 17, .tmp 20]) rfl ?_); at_builtin; refine Kd.R_append_rows k110 (w0 := w) w.heap.size rfl (.tmp 17) (.tmp 20) 64 110 (.agg #[(.int .i64 0), (.int .i64 0)]) 16 rfl Try.underlying64 info110 rfl (by decide) (by omega) u3 x3_1 t440 _ _ _ (fun k_ => some k_ ≠ (.slice Ao16 t440.length co16 : Value).ownBlock) (fun _ => False) rfl rfl ?aO ?aR (fun _ _ h => h) (fun _ h => h.elim) ?aF ?aB ?aS ?aL ?_; (case aR => repeat (first | exact (Kd.R_reads' HO442.out).2.2 | (with_reducible refine Kd.C_alloc ?_ _) | (with_reducible refine Kd.C_drewN ?_ _) | (with_reducible refine Kd.C_drew ?_))); (case aB => exact bzs); (case aF => exact (fun k_ hk => Kd.fresh' (Kd.R_lt (hr HO442.out)) k_ hk)); (case aO => exact (hr (Kd.R_mono HO_3.out (fun _ hk => hk.2)))); (case aS => exact (below_size bzs)); (case aL => have := LMc11.out; omega); intro v444 w15 ho hb hg hat; rw [← Ny443.out] at ho; have n0_ := Aside0.mk (blk_grown (g := gb439) (o := .cells #[.int .i64 ((rd_T29 l0 x13_1).f0), .int .i64 ((rd_T29 l0 x13_1).f1), .int .i64 ((rd_T29 l0 x13_1).f2), .string ((rd_T29 l0 x13_1).f3), .slice A438_4 ((rd_T29 l0 x13_1).f4).length c438_4] 29 (0, 0)) (kz BK439) hg (Kd.R_ne HO_3.out BK439.out (by decide))); have n1_ := Aside0.mk (Kd.R_after (ok := (fun _ => True)) (hr HO442.out) hg hat); have n2_ := Aside0.mk (hb); have n3_ := Aside0.mk (ho); clear BK439; clear HO442; clear HB; clear HO_3; have BK439 := n0_; have HO442 := n1_; have HB := n2_; have HO445 := n3_; clear n0_ n1_ n2_ n3_; clear ho hb hg hat))
        go_roundg k1
        case measure => have := HK1.out; omega
        case rel => exact ⟨(y443), (wrap64 (x13_1 + 1)), rz, H', ⟨by have := HK1.out; omega⟩, ⟨hr (Kd.R_mono HO445.out (fun _ hk => trivial))⟩, ⟨bzs⟩⟩
       ·rw [if_neg c11] at H
        exact absurd H (by simp)
      ·rw [if_neg c9] at H
       exact absurd H (by simp)
     ·rw [if_neg c8] at H
      exact absurd H (by simp)
    ·rw [if_neg c7] at H; have c7b0 := decide_eq_false c7; clear c7; obtain rfl := Option.some.inj H; go_wp2; go_ret
     exact ⟨_, ez, hr HO_3.out, bz⟩
 ·replace c3 := Bool.eq_false_iff.mpr c3; subst c3; replace H := iff_ H; obtain rfl := Option.some.inj H
  go_enter Try.func48, Try.ntmps48; go_wp2_with (first | ((with_reducible refine gate_dst (N := 6) rfl ?_); refine Kd.R_lit k110 _ 110 ?hg (N := 6) ?hd (xs := ([] : List (S110))) (inner := []) (ok := fun _ => True) (okp := fun _ => True) ?hr ?hp (fun _ hk => hk) trivial (Below.refl _ _) (Nat.le_refl _) (by simp) ?_; (case hd => rfl); (case hg => rfl); (case hr => first | (go_simp; done) | (go_simp; rfl)); (case hp => exact (Reps.none _ _)); intro v435 w17 ho18 hb hg_ hnew_; clear hg_ hnew_; (first | rw [← Ny434.out] at ho18 | (simp only [Int.reduceToNat] at ho18; rw [← Ny434.out] at ho18)); have HO436 := Aside0.mk (Kd.R_lower ho18 (below_size bz)); replace HB := Aside0.mk (below_step bz hb); clear hb ho18) | ((with_reducible refine gt (some 8) rfl ?_); refine gc Try.func85 (impl_IsSource.calls k _ _ l0 false _ cz0 HC0.out A2.out) ?_; rintro e w19 ⟨rfl, hb⟩; refine ⟨_, rfl, ?_⟩; replace HO436 := Aside0.mk (rbz HO436 hb); replace HB := Aside0.mk (below_step bz hb); (try clear hb))); go_ret
  exact ⟨_, ez, hr HO436.out, bz⟩

/-! ### laws_eqPiece: function 102 -/
def laws_eqPiece.f (a0_0 : Int) (a0_1 : Int) (a1_0 : Int) (a1_1 : Int) : Option (Bool) := if a0_0 = a1_0 then (if a0_1 = a1_1 then (some true) else (some false)) else (some false)
set_option maxHeartbeats 8000000 in
set_option maxRecDepth 100000 in
theorem laws_eqPiece.calls (a0_0 : Int) (a0_1 : Int) (a1_0 : Int) (a1_1 : Int) (r : Bool) (w : World) (h : laws_eqPiece.f a0_0 a0_1 a1_0 a1_1 = some r) :
  Calls Try.prog 102 #[.agg #[.int .i64 a0_0, .int .i64 a0_1], .agg #[.int .i64 a1_0, .int .i64 a1_1]] w fun e w' => e = .returned (.bool r) ∧ Below w.heap.size w w' := by
 have hu110 := Try.underlying110; have HB := Aside0.mk (Below.refl w.heap.size w); have H : (if a0_0 = a1_0 then (if a0_1 = a1_1 then (some true) else (some false)) else (some false)) = some r := h; clear h
 by_cases c3 : a0_0 = a1_0
 ·rw [if_pos c3] at H; have c3b0 : (a0_0 == a1_0) = true := beq_iff_eq.mpr c3; have c3b1 : (a0_0 != a1_0) = false := bne_eq_false_iff_eq.mpr c3; clear c3
  by_cases c4 : a0_1 = a1_1
  ·rw [if_pos c4] at H; have c4b0 : (a0_1 == a1_1) = true := beq_iff_eq.mpr c4; have c4b1 : (a0_1 != a1_1) = false := bne_eq_false_iff_eq.mpr c4; clear c4; obtain rfl := Option.some.inj H
   go_enter Try.func102, Try.ntmps102; go_wp2_with (first | ((with_reducible refine gt (some 2) rfl ?_); refine bx #[.int .i64 a0_0, .int .i64 a0_1] 110 ?_; intro gb446 hg w5 hbox hb; have BK446 := Aside0.mk (hbox); have GW446 := Aside0.mk (gez HB hg); have GE446 := Aside0.mk (gez HB hg); replace HB := Aside0.mk (below_step bz hb); clear hb hbox hg) | ((with_reducible refine gt (some 3) rfl ?_); refine bx #[.int .i64 a1_0, .int .i64 a1_1] 110 ?_; intro gb447 hg w6 hbox hb; have BK447 := Aside0.mk (hbox); have GW447 := Aside0.mk (gez HB hg); have GE447 := Aside0.mk (gez HB hg); replace HB := Aside0.mk (below_step bzs hb); have NB446_447 := Aside0.mk ((by rw [hg]; exact Nat.ne_of_lt (blk_lt (g := gb446) (o := .cells #[.int .i64 a0_0, .int .i64 a0_1] 110 (0, 0)) (kz BK446)) : gb446 ≠ gb447)); have NB447_446 := Aside0.mk ((by rw [hg]; exact Nat.ne_of_gt (blk_lt (g := gb446) (o := .cells #[.int .i64 a0_0, .int .i64 a0_1] 110 (0, 0)) (kz BK446)) : gb447 ≠ gb446)); replace BK446 := Aside0.mk (bbz BK446 hb); clear hb hbox hg; have hnb7 := NB446_447.out; have hnc7 := NB447_446.out; obtain ⟨hcz8_0, hcz8_1, hfz8_0, hfz8_1⟩ := cells2 BK446; obtain ⟨hcz9_0, hcz9_1, hfz9_0, hfz9_1⟩ := cells2 BK447)); go_ret
   exact ⟨ez, bzs⟩
  ·rw [if_neg c4] at H; have c4b0 : (a0_1 == a1_1) = false := beq_eq_false_iff_ne.mpr c4; have c4b1 : (a0_1 != a1_1) = true := bne_iff_ne.mpr c4; obtain rfl := Option.some.inj H
   go_enter Try.func102, Try.ntmps102; go_wp2_with (first | ((with_reducible refine gt (some 2) rfl ?_); refine bx #[.int .i64 a0_0, .int .i64 a0_1] 110 ?_; intro gb446 hg w10 hbox hb; have BK446 := Aside0.mk (hbox); have GW446 := Aside0.mk (gez HB hg); have GE446 := Aside0.mk (gez HB hg); replace HB := Aside0.mk (below_step bz hb); clear hb hbox hg) | ((with_reducible refine gt (some 3) rfl ?_); refine bx #[.int .i64 a1_0, .int .i64 a1_1] 110 ?_; intro gb447 hg w11 hbox hb; have BK447 := Aside0.mk (hbox); have GW447 := Aside0.mk (gez HB hg); have GE447 := Aside0.mk (gez HB hg); replace HB := Aside0.mk (below_step bzs hb); have NB446_447 := Aside0.mk ((by rw [hg]; exact Nat.ne_of_lt (blk_lt (g := gb446) (o := .cells #[.int .i64 a0_0, .int .i64 a0_1] 110 (0, 0)) (kz BK446)) : gb446 ≠ gb447)); have NB447_446 := Aside0.mk ((by rw [hg]; exact Nat.ne_of_gt (blk_lt (g := gb446) (o := .cells #[.int .i64 a0_0, .int .i64 a0_1] 110 (0, 0)) (kz BK446)) : gb447 ≠ gb446)); replace BK446 := Aside0.mk (bbz BK446 hb); clear hb hbox hg; have hnb12 := NB446_447.out; have hnc12 := NB447_446.out; obtain ⟨hcz13_0, hcz13_1, hfz13_0, hfz13_1⟩ := cells2 BK446; obtain ⟨hcz14_0, hcz14_1, hfz14_0, hfz14_1⟩ := cells2 BK447)); go_ret
   exact ⟨ez, bzs⟩
 ·rw [if_neg c3] at H; have c3b0 : (a0_0 == a1_0) = false := beq_eq_false_iff_ne.mpr c3; have c3b1 : (a0_0 != a1_0) = true := bne_iff_ne.mpr c3; obtain rfl := Option.some.inj H
  go_enter Try.func102, Try.ntmps102; go_wp2_with (first | ((with_reducible refine gt (some 2) rfl ?_); refine bx #[.int .i64 a0_0, .int .i64 a0_1] 110 ?_; intro gb446 hg w15 hbox hb; have BK446 := Aside0.mk (hbox); have GW446 := Aside0.mk (gez HB hg); have GE446 := Aside0.mk (gez HB hg); replace HB := Aside0.mk (below_step bz hb); clear hb hbox hg) | ((with_reducible refine gt (some 3) rfl ?_); refine bx #[.int .i64 a1_0, .int .i64 a1_1] 110 ?_; intro gb447 hg w16 hbox hb; have BK447 := Aside0.mk (hbox); have GW447 := Aside0.mk (gez HB hg); have GE447 := Aside0.mk (gez HB hg); replace HB := Aside0.mk (below_step bzs hb); have NB446_447 := Aside0.mk ((by rw [hg]; exact Nat.ne_of_lt (blk_lt (g := gb446) (o := .cells #[.int .i64 a0_0, .int .i64 a0_1] 110 (0, 0)) (kz BK446)) : gb446 ≠ gb447)); have NB447_446 := Aside0.mk ((by rw [hg]; exact Nat.ne_of_gt (blk_lt (g := gb446) (o := .cells #[.int .i64 a0_0, .int .i64 a0_1] 110 (0, 0)) (kz BK446)) : gb447 ≠ gb446)); replace BK446 := Aside0.mk (bbz BK446 hb); clear hb hbox hg; have hnb17 := NB446_447.out; have hnc17 := NB447_446.out; obtain ⟨hcz18_0, hcz18_1, hfz18_0, hfz18_1⟩ := cells2 BK446; obtain ⟨hcz19_0, hcz19_1, hfz19_0, hfz19_1⟩ := cells2 BK447)); go_ret
  exact ⟨ez, bzs⟩

/-! ### laws_eqPieceS: function 49 -/
def laws_eqPieceS.l0 : Nat → List (S110) → List (S110) → Int → Option (Bool)
 | 0, _, _, _ => none
 | k + 1, x0, x1, x5 => if x5 < (x0.length : Int) then (if 0 ≤ x5 then (if x5 < (x1.length : Int) then ((laws_eqPiece.f ((rd_T110 x0 x5).f0) ((rd_T110 x0 x5).f1) ((rd_T110 x1 x5).f0) ((rd_T110 x1 x5).f1)).bind fun t450 => (if t450 = true then (laws_eqPieceS.l0 k x0 x1 (wrap64 (x5 + 1))) else (some false))) else (none)) else (none)) else (some true)
def laws_eqPieceS.f (k : Nat) (l0 : List (S110)) (l1 : List (S110)) : Option (Bool) := if (l0.length : Int) = (l1.length : Int) then (laws_eqPieceS.l0 k l0 l1 0) else (some false)
theorem laws_eqPieceS.mono_l : ∀ k, (∀ y0 y1 y2, LeO (laws_eqPieceS.l0 k y0 y1 y2) (laws_eqPieceS.l0 (k + 1) y0 y1 y2))
 | 0 => fun _ _ _ r h => by simp [laws_eqPieceS.l0] at h
 | k + 1 => by
  have ih0 := laws_eqPieceS.mono_l k
  ·intro y0 y1 y2
   unfold laws_eqPieceS.l0
   repeat' first | (with_reducible first | exact ih0 _ _ _ | exact LeO.refl _ | exact LeO.none _ | refine LeO.ite ?_ ?_ | refine LeO.bind ?_ (fun _ => ?_)) | exact ih0 _ _ _ | exact LeO.none _ | refine LeO.ite ?_ ?_ | refine LeO.bind ?_ (fun _ => ?_)
theorem laws_eqPieceS.mono : ∀ a0 a1 k, LeO (laws_eqPieceS.f k a0 a1) (laws_eqPieceS.f (k + 1) a0 a1) := by
 intro a0 a1 k; have ih0 := laws_eqPieceS.mono_l k
 unfold laws_eqPieceS.f
 repeat' first | (with_reducible first | exact ih0 _ _ _ | exact LeO.refl _ | exact LeO.none _ | refine LeO.ite ?_ ?_ | refine LeO.bind ?_ (fun _ => ?_)) | exact ih0 _ _ _ | exact LeO.none _ | refine LeO.ite ?_ ?_ | refine LeO.bind ?_ (fun _ => ?_)
def laws_eqPieceS.T6 : Bool × List (List Nat × List Nat) := (true, [([], []), ([], []), ([0, 1], [0, 1]), ([2], [2]), ([], []), ([], []), ([4, 5], [4, 5]), ([6], [6]), ([3, 7], [3, 7]), ([8], [8])])
def laws_eqPieceS.B6 : List Nat := [0, 0, 3, 7, 0, 0, 48, 112, 255, 511]
theorem laws_eqPieceS.tab6 : rtab .any (opsOf Try.f49 6) = laws_eqPieceS.T6 := by kernel_rfl
theorem laws_eqPieceS.bits6 : waitsOk laws_eqPieceS.T6.2 laws_eqPieceS.B6 = true := by kernel_rfl
set_option maxHeartbeats 8000000 in
set_option maxRecDepth 100000 in
theorem laws_eqPieceS.calls (k : Nat) (A0 : Option Addr) (c0 : Nat) (l0 : List (S110)) (A1 : Option Addr) (c1 : Nat) (l1 : List (S110)) (r : Bool) (w : World) (hr0 : Kd.C k110 w A0 l0.length l0) (hc0 : l0.length ≤ c0) (hr1 : Kd.C k110 w A1 l1.length l1) (hc1 : l1.length ≤ c1) (h : laws_eqPieceS.f k l0 l1 = some r) :
  Calls Try.prog 49 #[.slice A0 l0.length c0, .slice A1 l1.length c1] w fun e w' => e = .returned (.bool r) ∧ Below w.heap.size w w' := by
 have hu110 := Try.underlying110; have HR0 := Aside0.mk hr0; have HC0 := Aside0.mk hc0; clear hr0 hc0; have HR1 := Aside0.mk hr1; have HC1 := Aside0.mk hc1; clear hr1 hc1; have HB := Aside0.mk (Below.refl w.heap.size w); have H : (if (l0.length : Int) = (l1.length : Int) then (laws_eqPieceS.l0 k l0 l1 0) else (some false)) = some r := h; clear h
 by_cases c3 : (l0.length : Int) = (l1.length : Int)
 ·rw [if_pos c3] at H; have c3b0 : ((l0.length : Int) == (l1.length : Int)) = true := beq_iff_eq.mpr c3; have c3b1 : ((l0.length : Int) != (l1.length : Int)) = false := bne_eq_false_iff_eq.mpr c3
  have c3b2 : (l0.length == l1.length) = true := by first | simpa using c3 | (simp at c3 ⊢; omega)
  clear c3; have H' := Aside0.mk H; clear H
  go_enter Try.func49, Try.ntmps49; go_wp2
  go_loopg [5] k (fun kq v5 w' => ∃ (x5_1 : Int), v5 = .int .i64 x5_1 ∧ Aside0 (laws_eqPieceS.l0 kq l0 l1 x5_1 = some r) ∧ Aside0 (kq ≤ k) ∧ Aside0 (Below w.heap.size w w'))
  case atStart => exact ⟨(0), rz, H', ⟨Nat.le_refl _⟩, ⟨bz⟩⟩
  case round =>
   clear H'; (try clear c1); (try clear p2); (try clear c3); (try clear c3b0); (try clear c3b1); (try clear c3b2); obtain ⟨x5_1, rfl, HA, HK1, HB⟩ := hrel
   cases gk with
   | zero => exact absurd HA.out (by simp [laws_eqPieceS.l0])
   | succ k1 =>
    have H := HA.out; clear HA; simp only [laws_eqPieceS.l0] at H
    by_cases c4 : x5_1 < (l0.length : Int)
    ·rw [if_pos c4] at H; have c4b0 := decide_eq_true c4; clear c4
     by_cases c5 : 0 ≤ x5_1
     ·rw [if_pos c5] at H; have c5b0 := decide_eq_true c5; clear c5
      by_cases c6 : x5_1 < (l1.length : Int)
      ·rw [if_pos c6] at H; have c6b0 := decide_eq_true c6; clear c6; replace H := Option.bind_eq_some_iff.mp H; obtain ⟨t450, A70, H⟩ := H; have A7 := Aside0.mk A70; clear A70
       by_cases c8 : t450 = true
       ·subst c8; replace H := ift H; have H' := Aside0.mk H; clear H; (try go_wp2); replace HB := Aside0.mk (below_drew1 HB.out); have p448 : 0 ≤ (x5_1 : Int) := of_decide_eq_true az; have q448 : x5_1 < (l0.length : Int) := of_decide_eq_true az; obtain ⟨ad448, e448, hx448_0, hx448_1⟩ := at_T110 HR0.out x5_1 p448 q448; have hw448_1 := hx448_1; have hw448_0 := hx448_0
        cases e448
        replace hx448_0 := xz HB hx448_0; replace hx448_1 := xz HB hx448_1; replace p448 := eq_true p448; replace q448 := eq_true q448; have p449 : 0 ≤ (x5_1 : Int) := of_decide_eq_true az; have q449 : x5_1 < (l1.length : Int) := of_decide_eq_true az; obtain ⟨ad449, e449, hx449_0, hx449_1⟩ := at_T110 HR1.out x5_1 p449 q449; have hw449_1 := hx449_1; have hw449_0 := hx449_0
        cases e449
        replace hx449_0 := xz HB hx449_0; replace hx449_1 := xz HB hx449_1; replace p449 := eq_true p449; replace q449 := eq_true q449; refine start_ (n := 10) (S := fun w' => w'.cell? (ad448.add ((x5_1).toNat * 2)) = some (.int .i64 ((rd_T110 l0 x5_1).f0)) ∧ w'.cell? ⟨(ad448.add ((x5_1).toNat * 2)).block, (ad448.add ((x5_1).toNat * 2)).off + 1, none⟩ = some (.int .i64 ((rd_T110 l0 x5_1).f1)) ∧ w'.cell? (ad449.add ((x5_1).toNat * 2)) = some (.int .i64 ((rd_T110 l1 x5_1).f0)) ∧ w'.cell? ⟨(ad449.add ((x5_1).toNat * 2)).block, (ad449.add ((x5_1).toNat * 2)).off + 1, none⟩ = some (.int .i64 ((rd_T110 l1 x5_1).f1))) (ds := []) #[F,F,F,F,F,F,F,F,F,F] (by kernel_rfl) rfl rfl ⟨(xz HB hw448_0 :), (xz HB hw448_1 :), (xz HB hw449_0 :), (xz HB hw449_1 :)⟩ (fun hHeld => ?_); refine with_tabW laws_eqPieceS.tab6 laws_eqPieceS.bits6 (fun HT_ HW_ => ?_); generalize wr.drew = w9 at HB hx448_0 hx448_1 hx449_0 hx449_1 hHeld ⊢; refine pz HT_ 0 17 ?_; refine pz HT_ 1 18 ?_; refine pz HT_ 2 19 ?_; refine pz HT_ 4 21 ?_; refine pz HT_ 5 22 ?_; refine pz HT_ 6 23 ?_; refine tz4 HT_ HW_ hHeld 3 20 ?_; refine tz4 HT_ HW_ hHeld 7 24 ?_; refine oz HT_ 8 (some 25) (fun K hK => ?_); refine gz Try.func102 #[.agg #[.int .i64 ((rd_T110 l0 x5_1).f0), .int .i64 ((rd_T110 l0 x5_1).f1)], .agg #[.int .i64 ((rd_T110 l1 x5_1).f0), .int .i64 ((rd_T110 l1 x5_1).f1)]] ?_
        with_reducible refine (laws_eqPiece.calls ((rd_T110 l0 x5_1).f0) ((rd_T110 l0 x5_1).f1) ((rd_T110 l1 x5_1).f0) ((rd_T110 l1 x5_1).f1) true _ A7.out).mono ?_
        rintro e w10 ⟨rfl, hb⟩; refine ⟨_, rfl, ?_⟩; replace HB := Aside0.mk (below_step bz hb); (try clear hb); (try clear hb2); (try clear hk); (try clear hi); refine hK.out _ _ ⟨(xz HB hw448_0 :), (xz HB hw448_1 :), (xz HB hw449_0 :), (xz HB hw449_1 :)⟩ (fun hHeld => ?_); clear hK K; refine nz 25 ?_; refine pz HT_ 9 26 ?_; refine dz HT_ ?_; (try go_wp2)
        go_roundg k1
        case measure => have := HK1.out; omega
        case rel => exact ⟨(wrap64 (x5_1 + 1)), rz, H', ⟨by have := HK1.out; omega⟩, ⟨bz⟩⟩
       ·replace c8 := Bool.eq_false_iff.mpr c8; subst c8; replace H := iff_ H; obtain rfl := Option.some.inj H; (try go_wp2); replace HB := Aside0.mk (below_drew1 HB.out); have p448 : 0 ≤ (x5_1 : Int) := of_decide_eq_true az; have q448 : x5_1 < (l0.length : Int) := of_decide_eq_true az; obtain ⟨ad448, e448, hx448_0, hx448_1⟩ := at_T110 HR0.out x5_1 p448 q448; have hw448_1 := hx448_1; have hw448_0 := hx448_0
        cases e448
        replace hx448_0 := xz HB hx448_0; replace hx448_1 := xz HB hx448_1; replace p448 := eq_true p448; replace q448 := eq_true q448; have p449 : 0 ≤ (x5_1 : Int) := of_decide_eq_true az; have q449 : x5_1 < (l1.length : Int) := of_decide_eq_true az; obtain ⟨ad449, e449, hx449_0, hx449_1⟩ := at_T110 HR1.out x5_1 p449 q449; have hw449_1 := hx449_1; have hw449_0 := hx449_0
        cases e449
        replace hx449_0 := xz HB hx449_0; replace hx449_1 := xz HB hx449_1; replace p449 := eq_true p449; replace q449 := eq_true q449; refine start_ (n := 10) (S := fun w' => w'.cell? (ad448.add ((x5_1).toNat * 2)) = some (.int .i64 ((rd_T110 l0 x5_1).f0)) ∧ w'.cell? ⟨(ad448.add ((x5_1).toNat * 2)).block, (ad448.add ((x5_1).toNat * 2)).off + 1, none⟩ = some (.int .i64 ((rd_T110 l0 x5_1).f1)) ∧ w'.cell? (ad449.add ((x5_1).toNat * 2)) = some (.int .i64 ((rd_T110 l1 x5_1).f0)) ∧ w'.cell? ⟨(ad449.add ((x5_1).toNat * 2)).block, (ad449.add ((x5_1).toNat * 2)).off + 1, none⟩ = some (.int .i64 ((rd_T110 l1 x5_1).f1))) (ds := []) #[F,F,F,F,F,F,F,F,F,F] (by kernel_rfl) rfl rfl ⟨(xz HB hw448_0 :), (xz HB hw448_1 :), (xz HB hw449_0 :), (xz HB hw449_1 :)⟩ (fun hHeld => ?_); refine with_tabW laws_eqPieceS.tab6 laws_eqPieceS.bits6 (fun HT_ HW_ => ?_); generalize wr.drew = w11 at HB hx448_0 hx448_1 hx449_0 hx449_1 hHeld ⊢; refine pz HT_ 0 17 ?_; refine pz HT_ 1 18 ?_; refine pz HT_ 2 19 ?_; refine pz HT_ 4 21 ?_; refine pz HT_ 5 22 ?_; refine pz HT_ 6 23 ?_; refine tz4 HT_ HW_ hHeld 3 20 ?_; refine tz4 HT_ HW_ hHeld 7 24 ?_; refine oz HT_ 8 (some 25) (fun K hK => ?_); refine gz Try.func102 #[.agg #[.int .i64 ((rd_T110 l0 x5_1).f0), .int .i64 ((rd_T110 l0 x5_1).f1)], .agg #[.int .i64 ((rd_T110 l1 x5_1).f0), .int .i64 ((rd_T110 l1 x5_1).f1)]] ?_
        with_reducible refine (laws_eqPiece.calls ((rd_T110 l0 x5_1).f0) ((rd_T110 l0 x5_1).f1) ((rd_T110 l1 x5_1).f0) ((rd_T110 l1 x5_1).f1) false _ A7.out).mono ?_
        rintro e w12 ⟨rfl, hb⟩; refine ⟨_, rfl, ?_⟩; replace HB := Aside0.mk (below_step bz hb); (try clear hb); (try clear hb2); (try clear hk); (try clear hi); refine hK.out _ _ ⟨(xz HB hw448_0 :), (xz HB hw448_1 :), (xz HB hw449_0 :), (xz HB hw449_1 :)⟩ (fun hHeld => ?_); clear hK K; refine nz 25 ?_; refine pz HT_ 9 26 ?_; refine dz HT_ ?_; (try go_wp2); go_ret
        exact ⟨ez, bz⟩
      ·rw [if_neg c6] at H
       exact absurd H (by simp)
     ·rw [if_neg c5] at H
      exact absurd H (by simp)
    ·rw [if_neg c4] at H; have c4b0 := decide_eq_false c4; clear c4; obtain rfl := Option.some.inj H; go_wp2; go_ret
     exact ⟨ez, bz⟩
 ·rw [if_neg c3] at H; have c3b0 : ((l0.length : Int) == (l1.length : Int)) = false := beq_eq_false_iff_ne.mpr c3; have c3b1 : ((l0.length : Int) != (l1.length : Int)) = true := bne_iff_ne.mpr c3
  have c3b2 : (l0.length == l1.length) = false := by first | simpa using c3 | (simp at c3 ⊢; omega)
  obtain rfl := Option.some.inj H
  go_enter Try.func49, Try.ntmps49; go_wp2; go_ret
  exact ⟨ez, bz⟩

/-! ### laws_markPieceS: function 50 -/
def laws_markPieceS.l0 : Nat → List (S110) → Int → Int → Option (Int × (List (S110)))
 | 0, _, _, _ => none
 | k + 1, x0, x1, x5 => if x5 < (x0.length : Int) then (if 0 ≤ x5 then ((some (x0.set (x5 : Int).toNat (⟨x1, (rd_T110 x0 x5).f1⟩ : S110) : List (S110))).bind fun y451 => (laws_markPieceS.l0 k (y451.set (x5 : Int).toNat (⟨(rd_T110 y451 x5).f0, wrap64 (x1 + 1)⟩ : S110)) (wrap64 ((wrap64 (x1 + 1)) + 1)) (wrap64 (x5 + 1)))) else (none)) else (some (x1, x0))
def laws_markPieceS.f (k : Nat) (l0 : List (S110)) (a1 : Int) : Option (Int × (List (S110))) := laws_markPieceS.l0 k l0 a1 0
theorem laws_markPieceS.mono_l : ∀ k, (∀ y0 y1 y2, LeO (laws_markPieceS.l0 k y0 y1 y2) (laws_markPieceS.l0 (k + 1) y0 y1 y2))
 | 0 => fun _ _ _ r h => by simp [laws_markPieceS.l0] at h
 | k + 1 => by
  have ih0 := laws_markPieceS.mono_l k
  ·intro y0 y1 y2
   unfold laws_markPieceS.l0
   repeat' first | (with_reducible first | exact ih0 _ _ _ | exact LeO.refl _ | exact LeO.none _ | refine LeO.ite ?_ ?_ | refine LeO.bind ?_ (fun _ => ?_)) | exact ih0 _ _ _ | exact LeO.none _ | refine LeO.ite ?_ ?_ | refine LeO.bind ?_ (fun _ => ?_)
theorem laws_markPieceS.mono : ∀ a0 a1 k, LeO (laws_markPieceS.f k a0 a1) (laws_markPieceS.f (k + 1) a0 a1) := by
 intro a0 a1 k; have ih0 := laws_markPieceS.mono_l k
 unfold laws_markPieceS.f
 repeat' first | (with_reducible first | exact ih0 _ _ _ | exact LeO.refl _ | exact LeO.none _ | refine LeO.ite ?_ ?_ | refine LeO.bind ?_ (fun _ => ?_)) | exact ih0 _ _ _ | exact LeO.none _ | refine LeO.ite ?_ ?_ | refine LeO.bind ?_ (fun _ => ?_)
set_option maxHeartbeats 8000000 in
set_option maxRecDepth 100000 in
theorem laws_markPieceS.calls (k : Nat) (P0_ : Nat → Prop) (u9000_ : Value) (l0 : List (S110)) (a1 : Int) (r1 : Int) (r2 : List (S110)) (w0 w : World) (hB : Below w0.heap.size w0 w) (ho0 : Kd.R k110 110 w w0.heap.size P0_ u9000_ l0) (h : laws_markPieceS.f k l0 a1 = some (r1, r2)) :
  Calls Try.prog 50 #[u9000_, .int .i64 a1] w fun e w' => e = .returned (.int .i64 r1) ∧ Kd.R k110 110 w' w0.heap.size (fun k_ => (P0_ k_ ∨ w.heap.size ≤ k_)) u9000_ r2 ∧ Below w0.heap.size w0 w' ∧ Kept w w' (fun k_ => P0_ k_) := by
 have HO0 := Aside0.mk (show Kd.R k110 110 w w0.heap.size (fun k_ => (P0_ k_ ∨ w.heap.size ≤ k_)) u9000_ l0 from Kd.R_mono ho0 (fun k_ hk => (.inl hk))); have HK := Aside0.mk (Kept.refl w (fun k_ => P0_ k_)); have HW0 := Aside0.mk hB.size; have HB := Aside0.mk hB; clear hB; have H : (laws_markPieceS.l0 k l0 a1 0) = some (r1, r2) := h; clear h; have H' := Aside0.mk H; clear H
 go_enter Try.func50, Try.ntmps50; go_wp2
 go_loopg [1, 5] k (fun kq v1 v5 w' => ∃ (x0_1 : List (S110)) (x1_1 : Int) (x5_1 : Int), v1 = .int .i64 x1_1 ∧ v5 = .int .i64 x5_1 ∧ Aside0 (laws_markPieceS.l0 kq x0_1 x1_1 x5_1 = some (r1, r2)) ∧ Aside0 (kq ≤ k) ∧ Aside0 (Kd.R k110 110 w' w0.heap.size (fun k_ => (P0_ k_ ∨ w.heap.size ≤ k_)) u9000_ x0_1) ∧ Aside0 (Kept w w' (fun k_ => P0_ k_)) ∧ Aside0 (Below w0.heap.size w0 w'))
 case atStart => exact ⟨(l0), (a1), (0), rz, rz, H', ⟨Nat.le_refl _⟩, ⟨hr HO0.out⟩, ⟨by repeat (first | (with_reducible first | exact HK.out | apply Kept.alloc | apply Kept.drewN | apply Kept.drew) | exact HK.out)⟩, ⟨bz⟩⟩
 case round =>
  clear H'; (try clear p2); obtain ⟨x0_1, x1_1, x5_1, rfl, rfl, HA, HK1, HO_0, HK, HB⟩ := hrel
  cases gk with
  | zero => exact absurd HA.out (by simp [laws_markPieceS.l0])
  | succ k1 =>
   have H := HA.out; clear HA; simp only [laws_markPieceS.l0] at H
   by_cases c3 : x5_1 < (x0_1.length : Int)
   ·rw [if_pos c3] at H; have c3b0 := decide_eq_true c3; clear c3
    by_cases c4 : 0 ≤ x5_1
    ·rw [if_pos c4] at H; have c4b0 := decide_eq_true c4; clear c4; obtain ⟨y451, hy451⟩ : ∃ y_ : List (S110), y_ = (x0_1.set (x5_1 : Int).toNat (⟨x1_1, (rd_T110 x0_1 x5_1).f1⟩ : S110)) := ⟨_, rfl⟩
     replace H : (laws_markPieceS.l0 k1 (y451.set (x5_1 : Int).toNat (⟨(rd_T110 y451 x5_1).f0, wrap64 (x1_1 + 1)⟩ : S110)) (wrap64 ((wrap64 (x1_1 + 1)) + 1)) (wrap64 (x5_1 + 1))) = some (r1, r2) := by first | (rw [hy451]; with_reducible exact H) | (have H2_ := (Option.bind_some _ _).symm.trans H; rw [hy451]; with_reducible exact H2_) | (have H2_ := (Option.bind_some _ _).symm.trans H; with_reducible exact H2_) | with_reducible exact H | (rw [hy451]; exact H) | exact H
     have Ny451 := Aside0.mk hy451; clear hy451; obtain ⟨y452, hy452⟩ : ∃ y_ : List (S110), y_ = (y451.set (x5_1 : Int).toNat (⟨(rd_T110 y451 x5_1).f0, wrap64 (x1_1 + 1)⟩ : S110)) := ⟨_, rfl⟩
     replace H : (laws_markPieceS.l0 k1 y452 (wrap64 ((wrap64 (x1_1 + 1)) + 1)) (wrap64 (x5_1 + 1))) = some (r1, r2) := by first | (rw [hy452]; with_reducible exact H) | (have H2_ := (Option.bind_some _ _).symm.trans H; rw [hy452]; with_reducible exact H2_) | (have H2_ := (Option.bind_some _ _).symm.trans H; with_reducible exact H2_) | with_reducible exact H | (rw [hy452]; exact H) | exact H
     have Ny452 := Aside0.mk hy452; clear hy452; have H' := Aside0.mk H; clear H; obtain ⟨Ao7, co7, eo7⟩ := Kd.R_slice HO_0.out; subst eo7; have p5 : 0 ≤ (x5_1 : Int) := of_decide_eq_true az; have q5 : (x5_1 : Int) < ((x0_1.length : Int) : Int) := of_decide_eq_true az; obtain ⟨go5, co5, eo5, gb5, gl5, cl5, HG5⟩ := Kd.R_form HO_0.out (by omega)
     (first | cases eo5 | (injection eo5 with ea_ en_ ec_; (first | subst ea_ | (injection ea_ with ea_; subst ea_)); subst ec_; clear en_))
     have GB5 := Aside0.mk gb5; have GG5 := Aside0.mk HG5; clear gb5 gl5 HG5; have HMgo5 := Aside0.mk (show (P0_ go5 ∨ w.heap.size ≤ go5) from (HO_0.out.1 _ rfl)); obtain ⟨ce5, hcl5, hM5, hcc5, hfr5⟩ := Kd.R_elem HO_0.out z110 (x5_1 : Int) p5 q5; obtain rfl := k110_openM hM5; have hx5_0 : wr.cell? ⟨go5, (x5_1 : Int).toNat * 2, none⟩ = some (.int .i64 ((rd_T110 x0_1 x5_1).f0)) := hcc5 0 _ rfl; have hx5_1 : wr.cell? ⟨go5, (x5_1 : Int).toNat * 2 + 1, none⟩ = some (.int .i64 ((rd_T110 x0_1 x5_1).f1)) := hcc5 1 _ rfl; have hf5_0 : wr.frozen? ⟨go5, (x5_1 : Int).toNat * 2, none⟩ = false := hfr5 0; have hf5_1 : wr.frozen? ⟨go5, (x5_1 : Int).toNat * 2 + 1, none⟩ = false := hfr5 1; clear hcl5 hcc5 hfr5 hM5; replace p5 := eq_true p5; replace q5 := eq_true q5; have HX8 := Aside0.mk (show Kd.R k110 110 wr w0.heap.size (fun k_ => (P0_ k_ ∨ w.heap.size ≤ k_)) (.slice (some ⟨go5, 0, none⟩) x0_1.length co7) x0_1 from (hr HO_0.out)); obtain ⟨ce8, hcl8, hM8, hcc8, hfr8⟩ := Kd.R_elem HX8.out z110 (x5_1 : Int) (of_decide_eq_true az) (by have h_ : (x5_1 : Int) < ((x0_1.length : Int) : Int) := of_decide_eq_true az; first | exact h_ | (have e_ := (Kd.R_reads' HO_0.out).1; omega) | simpa using h_); obtain rfl := k110_openM hM8; have HP8 := Kd.R_seg HX8.out (x5_1 : Int) (of_decide_eq_true az) (by have h_ : (x5_1 : Int) < ((x0_1.length : Int) : Int) := of_decide_eq_true az; first | exact h_ | (have e_ := (Kd.R_reads' HO_0.out).1; omega) | simpa using h_) (seg := [.int .i64 x1_1]) (j := 0) hcl8 hcc8 (show 1 ≤ 2 from by decide) (x' := (⟨x1_1, (rd_T110 x0_1 x5_1).f1⟩ : S110)) (k110_mkM _ _ _ (⟨x1_1, (rd_T110 x0_1 x5_1).f1⟩ : S110) ) (fun _ hk => hk)
     have hx8_0 := hcc8 0 _ rfl; (try simp only [show (k110).sz = 2 from rfl, Nat.mul_one, Nat.add_zero] at hx8_0); have hf8_0 := hfr8 0; (try simp only [show (k110).sz = 2 from rfl, Nat.mul_one, Nat.add_zero] at hf8_0); clear hcl8 hcc8 hfr8 hM8; go_wp2_with (first | ((with_reducible refine gate_store (t := 3) (p := 16) rfl ?_); refine store_event (t := 3) (p := 16) (v := ?vo_w9) (w1 := (wr.setCell ⟨go5, (x5_1 : Int).toNat * 2, none⟩ (.int .i64 x1_1))) ?hg ?ho ?hn ?hr ?_; (case ho => rfl); (case hg => rfl); (case hn => rfl); (case hr => first | (go_simp; done) | (go_simp; rfl)); intro w9 hw; have hg : wr.grownBy w9 (some go5) := (by rw [hw]; exact HP8.2); have hp_ : Kd.R k110 110 w9 w0.heap.size (fun k_ => (P0_ k_ ∨ w.heap.size ≤ k_)) (.slice (some ⟨go5, 0, none⟩) x0_1.length co7) y451 := (by rw [hw, Ny451.out]; exact HP8.1); clear HP8; replace HB := Aside0.mk ((by rw [hw]; exact below_set (HB.out) GB5.out : Below w0.heap.size w0 w9)); replace HK := Aside0.mk (Kept.of_grown (S := (fun k_ => P0_ k_)) hg (by repeat (first | (with_reducible first | exact HK.out | apply Kept.alloc | apply Kept.drewN | apply Kept.drew) | exact HK.out)) (fun k_ e_ => (HO_0.out.1 k_ e_))); replace HO_0 := Aside0.mk (hp_); clear hg hw hp_; have p6 : 0 ≤ (x5_1 : Int) := of_decide_eq_true az; have q6 : (x5_1 : Int) < ((x0_1.length : Int) : Int) := of_decide_eq_true az; obtain ⟨ce6, hcl6, hM6, hcc6, hfr6⟩ := Kd.R_elem HO_0.out z110 (x5_1 : Int) p6 q6; obtain rfl := k110_openM hM6; have hx6_0 : w9.cell? ⟨go5, (x5_1 : Int).toNat * 2, none⟩ = some (.int .i64 ((rd_T110 y451 x5_1).f0)) := hcc6 0 _ rfl; have hx6_1 : w9.cell? ⟨go5, (x5_1 : Int).toNat * 2 + 1, none⟩ = some (.int .i64 ((rd_T110 y451 x5_1).f1)) := hcc6 1 _ rfl; have hf6_0 : w9.frozen? ⟨go5, (x5_1 : Int).toNat * 2, none⟩ = false := hfr6 0; have hf6_1 : w9.frozen? ⟨go5, (x5_1 : Int).toNat * 2 + 1, none⟩ = false := hfr6 1; clear hcl6 hcc6 hfr6 hM6; replace p6 := eq_true p6; replace q6 := eq_true q6; have HX10 := Aside0.mk (show Kd.R k110 110 w9 w0.heap.size (fun k_ => (P0_ k_ ∨ w.heap.size ≤ k_)) (.slice (some ⟨go5, 0, none⟩) x0_1.length co7) y451 from (hr HO_0.out)); obtain ⟨ce10, hcl10, hM10, hcc10, hfr10⟩ := Kd.R_elem HX10.out z110 (x5_1 : Int) (of_decide_eq_true az) (by have h_ : (x5_1 : Int) < ((x0_1.length : Int) : Int) := of_decide_eq_true az; first | exact h_ | (have e_ := (Kd.R_reads' HO_0.out).1; omega) | simpa using h_); obtain rfl := k110_openM hM10; have HP10 := Kd.R_seg HX10.out (x5_1 : Int) (of_decide_eq_true az) (by have h_ : (x5_1 : Int) < ((x0_1.length : Int) : Int) := of_decide_eq_true az; first | exact h_ | (have e_ := (Kd.R_reads' HO_0.out).1; omega) | simpa using h_) (seg := [.int .i64 (wrap64 (x1_1 + 1))]) (j := 1) hcl10 hcc10 (show 2 ≤ 2 from by decide) (x' := (⟨(rd_T110 y451 x5_1).f0, wrap64 (x1_1 + 1)⟩ : S110)) (k110_mkM _ _ _ (⟨(rd_T110 y451 x5_1).f0, wrap64 (x1_1 + 1)⟩ : S110) ) (fun _ hk => hk); have hx10_1 := hcc10 1 _ rfl; (try simp only [show (k110).sz = 2 from rfl, Nat.mul_one, Nat.add_zero] at hx10_1); have hf10_1 := hfr10 1; (try simp only [show (k110).sz = 2 from rfl, Nat.mul_one, Nat.add_zero] at hf10_1); clear hcl10 hcc10 hfr10 hM10) | ((with_reducible refine gate_store (t := 3) (p := 23) rfl ?_); refine store_event (t := 3) (p := 23) (v := ?vo_w11) (w1 := (w9.setCell ⟨go5, (x5_1 : Int).toNat * 2 + 1, none⟩ (.int .i64 (wrap64 (x1_1 + 1))))) ?hg ?ho ?hn ?hr ?_; (case ho => rfl); (case hg => rfl); (case hn => rfl); (case hr => first | (go_simp; done) | (go_simp; rfl)); intro w11 hw; have hg : w9.grownBy w11 (some go5) := (by rw [hw]; exact HP10.2); have hp_ : Kd.R k110 110 w11 w0.heap.size (fun k_ => (P0_ k_ ∨ w.heap.size ≤ k_)) (.slice (some ⟨go5, 0, none⟩) x0_1.length co7) y452 := (by rw [hw, Ny452.out]; exact HP10.1); clear HP10; replace HB := Aside0.mk ((by rw [hw]; exact below_set (HB.out) GB5.out : Below w0.heap.size w0 w11)); replace HK := Aside0.mk (Kept.of_grown (S := (fun k_ => P0_ k_)) hg (by repeat (first | (with_reducible first | exact HK.out | apply Kept.alloc | apply Kept.drewN | apply Kept.drew) | exact HK.out)) (fun k_ e_ => (HO_0.out.1 k_ e_))); replace HO_0 := Aside0.mk (hp_); clear hg hw hp_))
     go_roundg k1
     case measure => have := HK1.out; omega
     case rel => exact ⟨(y452), (wrap64 ((wrap64 (x1_1 + 1)) + 1)), (wrap64 (x5_1 + 1)), rz, rz, H', ⟨by have := HK1.out; omega⟩, ⟨hr HO_0.out⟩, ⟨by repeat (first | (with_reducible first | exact HK.out | apply Kept.alloc | apply Kept.drewN | apply Kept.drew) | exact HK.out)⟩, ⟨bz⟩⟩
    ·rw [if_neg c4] at H
     exact absurd H (by simp)
   ·rw [if_neg c3] at H; have c3b0 := decide_eq_false c3; clear c3; simp only [Option.some.injEq, Prod.mk.injEq] at H; obtain ⟨rfl, rfl⟩ := H; obtain ⟨Ao12, co12, eo12⟩ := Kd.R_slice HO_0.out; subst eo12; go_wp2; go_ret
    exact ⟨ez, hr HO_0.out, bz, by repeat (first | (with_reducible first | exact HK.out | apply Kept.alloc | apply Kept.drewN | apply Kept.drew) | exact HK.out)⟩

/-! ### laws_heldPieceS: function 51 -/
def laws_heldPieceS.l0 : Nat → List (S110) → Int → Int → Option (Int)
 | 0, _, _, _ => none
 | k + 1, x0, x1, x5 => if x5 < (x0.length : Int) then (if 0 ≤ x5 then (if ((rd_T110 x0 x5).f0) = x1 then (if ((rd_T110 x0 x5).f1) = (wrap64 (x1 + 1)) then (laws_heldPieceS.l0 k x0 (wrap64 ((wrap64 (x1 + 1)) + 1)) (wrap64 (x5 + 1))) else (some (-1))) else (some (-1))) else (none)) else (some x1)
def laws_heldPieceS.f (k : Nat) (l0 : List (S110)) (a1 : Int) : Option (Int) := laws_heldPieceS.l0 k l0 a1 0
theorem laws_heldPieceS.mono_l : ∀ k, (∀ y0 y1 y2, LeO (laws_heldPieceS.l0 k y0 y1 y2) (laws_heldPieceS.l0 (k + 1) y0 y1 y2))
 | 0 => fun _ _ _ r h => by simp [laws_heldPieceS.l0] at h
 | k + 1 => by
  have ih0 := laws_heldPieceS.mono_l k
  ·intro y0 y1 y2
   unfold laws_heldPieceS.l0
   repeat' first | (with_reducible first | exact ih0 _ _ _ | exact LeO.refl _ | exact LeO.none _ | refine LeO.ite ?_ ?_ | refine LeO.bind ?_ (fun _ => ?_)) | exact ih0 _ _ _ | exact LeO.none _ | refine LeO.ite ?_ ?_ | refine LeO.bind ?_ (fun _ => ?_)
theorem laws_heldPieceS.mono : ∀ a0 a1 k, LeO (laws_heldPieceS.f k a0 a1) (laws_heldPieceS.f (k + 1) a0 a1) := by
 intro a0 a1 k; have ih0 := laws_heldPieceS.mono_l k
 unfold laws_heldPieceS.f
 repeat' first | (with_reducible first | exact ih0 _ _ _ | exact LeO.refl _ | exact LeO.none _ | refine LeO.ite ?_ ?_ | refine LeO.bind ?_ (fun _ => ?_)) | exact ih0 _ _ _ | exact LeO.none _ | refine LeO.ite ?_ ?_ | refine LeO.bind ?_ (fun _ => ?_)
set_option maxHeartbeats 8000000 in
set_option maxRecDepth 100000 in
theorem laws_heldPieceS.calls (k : Nat) (A0 : Option Addr) (c0 : Nat) (l0 : List (S110)) (a1 : Int) (r : Int) (w : World) (hr0 : Kd.C k110 w A0 l0.length l0) (hc0 : l0.length ≤ c0) (h : laws_heldPieceS.f k l0 a1 = some r) :
  Calls Try.prog 51 #[.slice A0 l0.length c0, .int .i64 a1] w fun e w' => e = .returned (.int .i64 r) ∧ Drawn0 w w' := by
 have HR0 := Aside0.mk hr0; have HC0 := Aside0.mk hc0; clear hr0 hc0; have H : (laws_heldPieceS.l0 k l0 a1 0) = some r := h; clear h; have H' := Aside0.mk H; clear H
 go_enter Try.func51, Try.ntmps51; go_wp2
 go_loopg [1, 5] k (fun kq v1 v5 w' => ∃ (x1_1 : Int) (x5_1 : Int), v1 = .int .i64 x1_1 ∧ v5 = .int .i64 x5_1 ∧ Aside0 (laws_heldPieceS.l0 kq l0 x1_1 x5_1 = some r) ∧ Aside0 (kq ≤ k) ∧ Drawn0 w w')
 case atStart => exact ⟨(a1), (0), rz, rz, H', ⟨Nat.le_refl _⟩, by repeat (first | exact Drawn0.refl _ | apply Drawn0.step)⟩
 case round =>
  clear H'; (try clear p2); obtain ⟨x1_1, x5_1, rfl, rfl, HA, HK1, ⟨m1, rfl⟩⟩ := hrel
  cases gk with
  | zero => exact absurd HA.out (by simp [laws_heldPieceS.l0])
  | succ k1 =>
   have H := HA.out; clear HA; simp only [laws_heldPieceS.l0] at H
   by_cases c3 : x5_1 < (l0.length : Int)
   ·rw [if_pos c3] at H; have c3b0 := decide_eq_true c3; clear c3
    by_cases c4 : 0 ≤ x5_1
    ·rw [if_pos c4] at H; have c4b0 := decide_eq_true c4; clear c4
     by_cases c5 : ((rd_T110 l0 x5_1).f0) = x1_1
     ·rw [if_pos c5] at H; have c5b0 : (((rd_T110 l0 x5_1).f0) == x1_1) = true := beq_iff_eq.mpr c5; have c5b1 : (((rd_T110 l0 x5_1).f0) != x1_1) = false := bne_eq_false_iff_eq.mpr c5; clear c5
      by_cases c6 : ((rd_T110 l0 x5_1).f1) = (wrap64 (x1_1 + 1))
      ·rw [if_pos c6] at H; have c6b0 : (((rd_T110 l0 x5_1).f1) == (wrap64 (x1_1 + 1))) = true := beq_iff_eq.mpr c6; have c6b1 : (((rd_T110 l0 x5_1).f1) != (wrap64 (x1_1 + 1))) = false := bne_eq_false_iff_eq.mpr c6; clear c6; have H' := Aside0.mk H; clear H; have p453 : 0 ≤ (x5_1 : Int) := of_decide_eq_true az; have q453 : x5_1 < (l0.length : Int) := of_decide_eq_true az; obtain ⟨ad453, e453, hx453_0, hx453_1⟩ := at_T110 HR0.out x5_1 p453 q453
       cases e453
       replace p453 := eq_true p453; replace q453 := eq_true q453; have p454 : 0 ≤ (x5_1 : Int) := of_decide_eq_true az; have q454 : x5_1 < (l0.length : Int) := of_decide_eq_true az; obtain ⟨ad454, e454, hx454_0, hx454_1⟩ := at_T110 HR0.out x5_1 p454 q454; obtain rfl : ad453 = ad454 := (by injection e454)
       replace p454 := eq_true p454; replace q454 := eq_true q454; go_wp2
       go_roundg k1
       case measure => have := HK1.out; omega
       case rel => exact ⟨(wrap64 ((wrap64 (x1_1 + 1)) + 1)), (wrap64 (x5_1 + 1)), rz, rz, H', ⟨by have := HK1.out; omega⟩, by repeat (first | exact Drawn0.refl _ | apply Drawn0.step)⟩
      ·rw [if_neg c6] at H; have c6b0 : (((rd_T110 l0 x5_1).f1) == (wrap64 (x1_1 + 1))) = false := beq_eq_false_iff_ne.mpr c6; have c6b1 : (((rd_T110 l0 x5_1).f1) != (wrap64 (x1_1 + 1))) = true := bne_iff_ne.mpr c6; obtain rfl := Option.some.inj H; have p453 : 0 ≤ (x5_1 : Int) := of_decide_eq_true az; have q453 : x5_1 < (l0.length : Int) := of_decide_eq_true az; obtain ⟨ad453, e453, hx453_0, hx453_1⟩ := at_T110 HR0.out x5_1 p453 q453
       cases e453
       replace p453 := eq_true p453; replace q453 := eq_true q453; have p454 : 0 ≤ (x5_1 : Int) := of_decide_eq_true az; have q454 : x5_1 < (l0.length : Int) := of_decide_eq_true az; obtain ⟨ad454, e454, hx454_0, hx454_1⟩ := at_T110 HR0.out x5_1 p454 q454; obtain rfl : ad453 = ad454 := (by injection e454)
       replace p454 := eq_true p454; replace q454 := eq_true q454; go_wp2; go_ret
       exact ⟨by first | rfl | (simp; done) | (simp [*]; done), by repeat (first | exact Drawn0.refl _ | apply Drawn0.step)⟩
     ·rw [if_neg c5] at H; have c5b0 : (((rd_T110 l0 x5_1).f0) == x1_1) = false := beq_eq_false_iff_ne.mpr c5; have c5b1 : (((rd_T110 l0 x5_1).f0) != x1_1) = true := bne_iff_ne.mpr c5; obtain rfl := Option.some.inj H; have p453 : 0 ≤ (x5_1 : Int) := of_decide_eq_true az; have q453 : x5_1 < (l0.length : Int) := of_decide_eq_true az; obtain ⟨ad453, e453, hx453_0, hx453_1⟩ := at_T110 HR0.out x5_1 p453 q453
      cases e453
      replace p453 := eq_true p453; replace q453 := eq_true q453; go_wp2; go_ret
      exact ⟨by first | rfl | (simp; done) | (simp [*]; done), by repeat (first | exact Drawn0.refl _ | apply Drawn0.step)⟩
    ·rw [if_neg c4] at H
     exact absurd H (by simp)
   ·rw [if_neg c3] at H; have c3b0 := decide_eq_false c3; clear c3; obtain rfl := Option.some.inj H; go_wp2; go_ret
    exact ⟨by first | rfl | (simp; done) | (simp [*]; done), by repeat (first | exact Drawn0.refl _ | apply Drawn0.step)⟩

end Go.Proofs.Ytdfehjfmihokpaa.PFnExactAllPieces

namespace Go.Proofs.Ytdfehjfmihokpaa.PFnExactAllPieces
open Go.RowKit Go.Proofs.YtdfehjfmihokpaaW.PrintWords Go.Proofs.YtdfehjfmihokpaaW.PrintLast Go.Proofs.YtdfehjfmihokpaaW.PrintMore Go.Proofs.YtdfehjfmihokpaaGeo Go.Proofs.YtdfehjfmihokpaaHand Go.Proofs.YtdfehjfmihokpaaMeet Go.Proofs.YtdfehjfmihokpaaQuiet Go.Proofs.YtdfehjfmihokpaaZ
attribute [local go_sem] max2_int min2_int max_two min_two max_three min_three max_four min_four   -- for this text's walks alone
set_option linter.unusedVariables false
set_option linter.unusedSimpArgs false

/-! ### laws_FnExactAllPieces: function 10 -/
def laws_FnExactAllPieces.j0 : Nat → List (S24) → List (S110) → List (S110) → Bool → Option (Bool)
 | 0, _, _, _, _ => none
 | k + 1, x0, x4, x6, x42 => if x42 = true then (some false) else ((laws_markPieceS.f k x6 1).bind fun bt475 => ((laws_heldPieceS.f k bt475.2 1).bind fun t477 => (if t477 < 0 then (some false) else (if t477 = bt475.1 then ((laws_toFeatureS.f k x0).bind fun t478 => ((impl_AllPieces.f k t478).bind fun t481 => ((laws_eqPieceS.f k t481 x4).bind fun t484 => (if t484 = true then ((laws_heldPieceS.f k bt475.2 1).bind fun t485 => (if t485 < 0 then (some false) else (if t485 = bt475.1 then (some true) else (some false)))) else (some false))))) else (some false)))))
def laws_FnExactAllPieces.f (k : Nat) (l0 : List (S24)) : Option (Bool) := (laws_szFeatureS.f k l0 1048576).bind fun t455 => (if t455 < 0 then (some true) else ((laws_toFeatureS.f k l0).bind fun t456 => ((spec_AllPieces.f k t456).bind fun t459 => ((laws_toFeatureS.f k l0).bind fun t462 => ((impl_AllPieces.f k t462).bind fun t465 => ((laws_eqPieceS.f k t465 t459).bind fun t468 => (if t468 = true then ((laws_toFeatureS.f k l0).bind fun t469 => ((laws_eqFeatureS.f k t462 t469).bind fun t472 => (if t472 = true then ((laws_markFeatureS.f t462 1).bind fun t473 => (if t473 < 0 then (laws_FnExactAllPieces.j0 k l0 t459 t465 true) else ((laws_eqPieceS.f k t465 t459).bind fun t474 => (laws_FnExactAllPieces.j0 k l0 t459 t465 (!t474))))) else (some false)))) else (some false))))))))
theorem laws_FnExactAllPieces.mono_l : ∀ k, (∀ y0 y1 y2 y3, LeO (laws_FnExactAllPieces.j0 k y0 y1 y2 y3) (laws_FnExactAllPieces.j0 (k + 1) y0 y1 y2 y3))
 | 0 => fun _ _ _ _ r h => by simp [laws_FnExactAllPieces.j0] at h
 | k + 1 => by
  have ih0 := laws_FnExactAllPieces.mono_l k
  ·intro y0 y1 y2 y3
   unfold laws_FnExactAllPieces.j0
   repeat' first | (with_reducible first | exact ih0 _ _ _ _ | exact impl_AllPieces.mono _ _ | exact laws_eqFeatureS.mono _ _ _ | exact laws_eqPieceS.mono _ _ _ | exact laws_heldPieceS.mono _ _ _ | exact laws_markPieceS.mono _ _ _ | exact laws_szFeatureS.mono _ _ _ | exact laws_toFeatureS.mono _ _ | exact spec_AllPieces.mono _ _ | exact LeO.refl _ | exact LeO.none _ | refine LeO.ite ?_ ?_ | refine LeO.bind ?_ (fun _ => ?_)) | exact ih0 _ _ _ _ | exact impl_AllPieces.mono _ _ | exact laws_eqFeatureS.mono _ _ _ | exact laws_eqPieceS.mono _ _ _ | exact laws_heldPieceS.mono _ _ _ | exact laws_markPieceS.mono _ _ _ | exact laws_szFeatureS.mono _ _ _ | exact laws_toFeatureS.mono _ _ | exact spec_AllPieces.mono _ _ | exact LeO.none _ | refine LeO.ite ?_ ?_ | refine LeO.bind ?_ (fun _ => ?_)
theorem laws_FnExactAllPieces.mono : ∀ a0 k, LeO (laws_FnExactAllPieces.f k a0) (laws_FnExactAllPieces.f (k + 1) a0) := by
 intro a0 k; have ih0 := laws_FnExactAllPieces.mono_l k
 unfold laws_FnExactAllPieces.f
 repeat' first | (with_reducible first | exact ih0 _ _ _ _ | exact impl_AllPieces.mono _ _ | exact laws_eqFeatureS.mono _ _ _ | exact laws_eqPieceS.mono _ _ _ | exact laws_heldPieceS.mono _ _ _ | exact laws_markPieceS.mono _ _ _ | exact laws_szFeatureS.mono _ _ _ | exact laws_toFeatureS.mono _ _ | exact spec_AllPieces.mono _ _ | exact LeO.refl _ | exact LeO.none _ | refine LeO.ite ?_ ?_ | refine LeO.bind ?_ (fun _ => ?_)) | exact ih0 _ _ _ _ | exact impl_AllPieces.mono _ _ | exact laws_eqFeatureS.mono _ _ _ | exact laws_eqPieceS.mono _ _ _ | exact laws_heldPieceS.mono _ _ _ | exact laws_markPieceS.mono _ _ _ | exact laws_szFeatureS.mono _ _ _ | exact laws_toFeatureS.mono _ _ | exact spec_AllPieces.mono _ _ | exact LeO.none _ | refine LeO.ite ?_ ?_ | refine LeO.bind ?_ (fun _ => ?_)
set_option maxHeartbeats 8000000 in
set_option maxRecDepth 100000 in
theorem laws_FnExactAllPieces.calls (k : Nat) (A0 : Option Addr) (c0 : Nat) (l0 : List (S24)) (r : Bool) (w : World) (hr0 : Kd.C k24 w A0 l0.length l0) (hc0 : l0.length ≤ c0) (h : laws_FnExactAllPieces.f k l0 = some r) :
  Calls Try.prog 10 #[.slice A0 l0.length c0] w fun e w' => e = .returned (.bool r) ∧ Below w.heap.size w w' := by
 have HR0 := Aside0.mk hr0; have HC0 := Aside0.mk hc0; clear hr0 hc0; have HB := Aside0.mk (Below.refl w.heap.size w); have H : ((laws_szFeatureS.f k l0 1048576).bind fun t455 => (if t455 < 0 then (some true) else ((laws_toFeatureS.f k l0).bind fun t456 => ((spec_AllPieces.f k t456).bind fun t459 => ((laws_toFeatureS.f k l0).bind fun t462 => ((impl_AllPieces.f k t462).bind fun t465 => ((laws_eqPieceS.f k t465 t459).bind fun t468 => (if t468 = true then ((laws_toFeatureS.f k l0).bind fun t469 => ((laws_eqFeatureS.f k t462 t469).bind fun t472 => (if t472 = true then ((laws_markFeatureS.f t462 1).bind fun t473 => (if t473 < 0 then (laws_FnExactAllPieces.j0 k l0 t459 t465 true) else ((laws_eqPieceS.f k t465 t459).bind fun t474 => (laws_FnExactAllPieces.j0 k l0 t459 t465 (!t474))))) else (some false)))) else (some false))))))))) = some r := h; clear h; replace H := Option.bind_eq_some_iff.mp H; obtain ⟨t455, A20, H⟩ := H; have A2 := Aside0.mk A20; clear A20
 by_cases c3 : t455 < 0
 ·rw [if_pos c3] at H; have c3b0 := decide_eq_true c3; clear c3; obtain rfl := Option.some.inj H
  go_enter Try.func10, Try.ntmps10; go_wp2_with (first | ((with_reducible refine gt (some 13) rfl ?_); refine gc Try.func26 (laws_szFeatureS.calls k _ _ l0 1048576 t455 _ (cz HR0.out) HC0.out A2.out) ?_; rintro e w4 ⟨rfl, hb⟩; refine ⟨_, rfl, ?_⟩; replace HB := Aside0.mk (below_step bz hb); (try clear hb))); go_ret
  exact ⟨ez, bz⟩
 ·rw [if_neg c3] at H; have c3b0 := decide_eq_false c3; clear c3; replace H := Option.bind_eq_some_iff.mp H; obtain ⟨t456, A50, H⟩ := H; have A5 := Aside0.mk A50; clear A50; replace H := Option.bind_eq_some_iff.mp H; obtain ⟨t459, A60, H⟩ := H; have A6 := Aside0.mk A60; clear A60; replace H := Option.bind_eq_some_iff.mp H; obtain ⟨t462, A70, H⟩ := H; have A7 := Aside0.mk A70; clear A70; replace H := Option.bind_eq_some_iff.mp H; obtain ⟨t465, A80, H⟩ := H; have A8 := Aside0.mk A80; clear A80; replace H := Option.bind_eq_some_iff.mp H; obtain ⟨t468, A90, H⟩ := H; have A9 := Aside0.mk A90; clear A90
  by_cases c10 : t468 = true
  ·subst c10; replace H := ift H; replace H := Option.bind_eq_some_iff.mp H; obtain ⟨t469, A110, H⟩ := H; have A11 := Aside0.mk A110; clear A110; replace H := Option.bind_eq_some_iff.mp H; obtain ⟨t472, A120, H⟩ := H; have A12 := Aside0.mk A120; clear A120
   by_cases c13 : t472 = true
   ·subst c13; replace H := ift H; replace H := Option.bind_eq_some_iff.mp H; obtain ⟨t473, A140, H⟩ := H; have A14 := Aside0.mk A140; clear A140; have HC15 := Aside0.mk H; clear H
    go_enter Try.func10, Try.ntmps10
    go_upto_region 14 with (first | ((with_reducible refine gt (some 13) rfl ?_); refine gc Try.func26 (laws_szFeatureS.calls k _ _ l0 1048576 t455 _ (cz HR0.out) HC0.out A2.out) ?_; rintro e w16 ⟨rfl, hb⟩; refine ⟨_, rfl, ?_⟩; replace HB := Aside0.mk (below_step bz hb); (try clear hb)) | ((with_reducible refine gt (some 17) rfl ?_); refine gc Try.func28 (laws_toFeatureS.calls k _ _ l0 t456 _ cz0 HC0.out A5.out) ?_; rintro e w17 ⟨v457, rfl, ho0, hb⟩; refine ⟨_, rfl, ?_⟩; have HO458 := Aside0.mk (Kd.S_lower ho0 (below_size bz)); replace HB := Aside0.mk (below_step bz hb); (try clear hb); (try clear ho0); obtain ⟨Ao18, co18, eo18⟩ := Kd.S_slice HO458.out; subst eo18) | ((with_reducible refine gt (some 18) rfl ?_); refine gc Try.func47 (spec_AllPieces.calls k _ _ t456 t459 _ (cz (Kd.S_reads' HO458.out).2.2) ((Kd.S_reads' HO458.out).2.1) A6.out) ?_; rintro e w19 ⟨v460, rfl, ho0, hb⟩; refine ⟨_, rfl, ?_⟩; replace HO458 := Aside0.mk (Kd.S_below (by (with_reducible repeat (first | apply Kd.S_alloc | apply Kd.S_drewN | apply Kd.S_drew)); exact HO458.out) hb); have HO461 := Aside0.mk (Kd.R_lower ho0 (below_size bz)); replace HB := Aside0.mk (below_step bz hb); (try clear hb); (try clear ho0)) | ((with_reducible refine gt (some 20) rfl ?_); refine gc Try.func28 (laws_toFeatureS.calls k _ _ l0 t462 _ cz0 HC0.out A7.out) ?_; rintro e w20 ⟨v463, rfl, ho0, hb⟩; refine ⟨_, rfl, ?_⟩; replace HO461 := Aside0.mk (rbz HO461 hb); have HO464 := Aside0.mk (Kd.S_lower (Kd.S_new' ho0 (Kd.S_lt (by (with_reducible repeat (first | apply Kd.S_alloc | apply Kd.S_drewN | apply Kd.S_drew)); exact HO458.out))) (below_size bz)); replace HO458 := Aside0.mk (Kd.S_elder' (by (with_reducible repeat (first | apply Kd.S_alloc | apply Kd.S_drewN | apply Kd.S_drew)); exact HO458.out) (Kd.S_base ho0) hb); replace HB := Aside0.mk (below_step bz hb); (try clear hb); (try clear ho0); obtain ⟨Ao21, co21, eo21⟩ := Kd.S_slice HO464.out; subst eo21) | ((with_reducible refine gt (some 22) rfl ?_); refine gc Try.func48 (impl_AllPieces.calls k _ _ t462 t465 _ (cz (Kd.S_reads' HO464.out).2.2) ((Kd.S_reads' HO464.out).2.1) A8.out) ?_; rintro e w22 ⟨v466, rfl, ho0, hb⟩; refine ⟨_, rfl, ?_⟩; replace HO458 := Aside0.mk (Kd.S_below (by (with_reducible repeat (first | apply Kd.S_alloc | apply Kd.S_drewN | apply Kd.S_drew)); exact HO458.out) hb); replace HO464 := Aside0.mk (Kd.S_below (by (with_reducible repeat (first | apply Kd.S_alloc | apply Kd.S_drewN | apply Kd.S_drew)); exact HO464.out) hb); have HO467 := Aside0.mk (Kd.R_lower (Kd.R_new' ho0 (Kd.R_lt (hr HO461.out))) (below_size bz)); replace HO461 := Aside0.mk (Kd.R_elder' (hr HO461.out) (Kd.R_base ho0) hb); replace HB := Aside0.mk (below_step bz hb); (try clear hb); (try clear ho0); obtain ⟨Ao23, co23, eo23⟩ := Kd.R_slice HO467.out; subst eo23; obtain ⟨Ao24, co24, eo24⟩ := Kd.R_slice HO461.out; subst eo24) | ((with_reducible refine gt (some 25) rfl ?_); refine gc Try.func49 (laws_eqPieceS.calls k _ _ t465 _ _ t459 true _ (cz (Kd.R_reads' HO467.out).2.2) ((Kd.R_reads' HO467.out).2.1) (cz (Kd.R_reads' HO461.out).2.2) ((Kd.R_reads' HO461.out).2.1) A9.out) ?_; rintro e w25 ⟨rfl, hb⟩; refine ⟨_, rfl, ?_⟩; replace HO458 := Aside0.mk (Kd.S_below (by (with_reducible repeat (first | apply Kd.S_alloc | apply Kd.S_drewN | apply Kd.S_drew)); exact HO458.out) hb); replace HO461 := Aside0.mk (rbz HO461 hb); replace HO464 := Aside0.mk (Kd.S_below (by (with_reducible repeat (first | apply Kd.S_alloc | apply Kd.S_drewN | apply Kd.S_drew)); exact HO464.out) hb); replace HO467 := Aside0.mk (rbz HO467 hb); replace HB := Aside0.mk (below_step bz hb); (try clear hb)) | ((with_reducible refine gt (some 29) rfl ?_); refine gc Try.func28 (laws_toFeatureS.calls k _ _ l0 t469 _ cz0 HC0.out A11.out) ?_; rintro e w26 ⟨v470, rfl, ho0, hb⟩; refine ⟨_, rfl, ?_⟩; replace HO461 := Aside0.mk (rbz HO461 hb); replace HO467 := Aside0.mk (rbz HO467 hb); have HO471 := Aside0.mk (Kd.S_lower (Kd.S_new' (Kd.S_new' ho0 (Kd.S_lt (by (with_reducible repeat (first | apply Kd.S_alloc | apply Kd.S_drewN | apply Kd.S_drew)); exact HO458.out))) (Kd.S_lt (by (with_reducible repeat (first | apply Kd.S_alloc | apply Kd.S_drewN | apply Kd.S_drew)); exact HO464.out))) (below_size bz)); replace HO458 := Aside0.mk (Kd.S_elder' (by (with_reducible repeat (first | apply Kd.S_alloc | apply Kd.S_drewN | apply Kd.S_drew)); exact HO458.out) (Kd.S_base ho0) hb); replace HO464 := Aside0.mk (Kd.S_elder' (by (with_reducible repeat (first | apply Kd.S_alloc | apply Kd.S_drewN | apply Kd.S_drew)); exact HO464.out) (Kd.S_base ho0) hb); replace HB := Aside0.mk (below_step bz hb); (try clear hb); (try clear ho0); obtain ⟨Ao27, co27, eo27⟩ := Kd.S_slice HO471.out; subst eo27) | ((with_reducible refine gt (some 30) rfl ?_); refine gc Try.func31 (laws_eqFeatureS.calls k _ _ t462 _ _ t469 true _ (cz (Kd.S_reads' HO464.out).2.2) ((Kd.S_reads' HO464.out).2.1) (cz (Kd.S_reads' HO471.out).2.2) ((Kd.S_reads' HO471.out).2.1) A12.out) ?_; rintro e w28 ⟨rfl, hb⟩; refine ⟨_, rfl, ?_⟩; replace HO458 := Aside0.mk (Kd.S_below (by (with_reducible repeat (first | apply Kd.S_alloc | apply Kd.S_drewN | apply Kd.S_drew)); exact HO458.out) hb); replace HO461 := Aside0.mk (rbz HO461 hb); replace HO464 := Aside0.mk (Kd.S_below (by (with_reducible repeat (first | apply Kd.S_alloc | apply Kd.S_drewN | apply Kd.S_drew)); exact HO464.out) hb); replace HO467 := Aside0.mk (rbz HO467 hb); replace HO471 := Aside0.mk (Kd.S_below (by (with_reducible repeat (first | apply Kd.S_alloc | apply Kd.S_drewN | apply Kd.S_drew)); exact HO471.out) hb); replace HB := Aside0.mk (below_step bz hb); (try clear hb)) | ((with_reducible refine gt (some 34) rfl ?_); refine gc Try.func32 (laws_markFeatureS.calls _ (.slice Ao21 t462.length co21) t462 1 t473 w _ (by repeat (first | (with_reducible first | exact HB.out | apply below_alloc | apply pw_below_drewN | apply below_drew1) | exact HB.out)) (Kd.R_mono (Kd.R_bound (Kd.S_R HO464.out)) (fun k_ hk_ => hk_.2.2.2)) A14.out) ?_; rintro e w29 ⟨rfl, hb, hkp⟩; refine ⟨_, rfl, ?_⟩; have n1_ := Aside0.mk (Kd.R_mono (ok' := fun k_ => some k_ ≠ (.slice Ao23 t465.length co23 : Value).ownBlock) (Kd.R_keptB (Kd.R_bound HO461.out) hkp (fun k_ hk_ hs_ => typed_ne (by decide) hk_.2.2.2 hs_)) (fun k_ hk_ => by first | exact hk_.1.1 | exact hk_.1.1.2)); have n2_ := Aside0.mk (Kd.R_mono (ok' := fun k_ => some k_ ≠ (.slice Ao24 t459.length co24 : Value).ownBlock) (Kd.R_keptB (Kd.R_bound HO467.out) hkp (fun k_ hk_ hs_ => typed_ne (by decide) hk_.2.2.2 hs_)) (fun k_ hk_ => by first | exact hk_.1.1 | exact hk_.1.1.2)); have n4_ := Aside0.mk (hb); clear HO458; clear HO461; clear HO467; clear HO471; clear HB; clear HO464; have HO461 := n1_; have HO467 := n2_; have HB := n4_; clear n1_ n2_ n4_; (try clear hb); (try clear hkp)))
    (try simp only [Act.put, List.setIfInBounds_toArray, List.set_cons_zero, List.set_cons_succ])
    go_cut [42] (fun v42 wc => ∃ (kq : Nat) (x42_14 : Bool), v42 = .bool x42_14 ∧ Aside0 (laws_FnExactAllPieces.j0 kq l0 t459 t465 x42_14 = some r) ∧ Aside0 (kq ≤ k) ∧ Aside0 (Kd.R k110 110 wc w.heap.size (fun k_ => some k_ ≠ ((.slice Ao23 t465.length co23) : Value).ownBlock) (.slice Ao24 t459.length co24) t459) ∧ Aside0 (Kd.R k110 110 wc w.heap.size (fun k_ => some k_ ≠ ((.slice Ao24 t459.length co24) : Value).ownBlock) (.slice Ao23 t465.length co23) t465) ∧ Aside0 (Below w.heap.size w wc))
    case first =>
     have H := HC15.out; clear HC15
     by_cases c30 : t473 < 0
     ·rw [if_pos c30] at H; have c30b0 := decide_eq_true c30; clear c30
      (first | rw [c30b0] | (simp only [i64_w, i32_w]; rw [c30b0]) | skip)
      have H' := Aside0.mk H; clear H; go_wp2
      go_meet
      case rel => exact ⟨_, (true), rz, H', ⟨qz⟩, ⟨hr HO461.out⟩, ⟨hr HO467.out⟩, ⟨bz⟩⟩
     ·rw [if_neg c30] at H; have c30b0 := decide_eq_false c30; clear c30
      (first | rw [c30b0] | (simp only [i64_w, i32_w]; rw [c30b0]) | skip)
      replace H := Option.bind_eq_some_iff.mp H; obtain ⟨t474, A310, H⟩ := H; have A31 := Aside0.mk A310; clear A310; have H' := Aside0.mk H; clear H; go_wp2_with (first | (go_at_call 49; (with_reducible refine (laws_eqPieceS.calls k _ _ t465 _ _ t459 t474 _ ?side1 ?side2 ?side3 ?side4 A31.out).mono ?_); (case side1 => repeat (first | exact (Kd.R_reads' HO467.out).2.2 | (with_reducible refine Kd.C_alloc ?_ _) | (with_reducible refine Kd.C_drewN ?_ _) | (with_reducible refine Kd.C_drew ?_))); (case side2 => exact (Kd.R_reads' HO467.out).2.1); (case side3 => repeat (first | exact (Kd.R_reads' HO461.out).2.2 | (with_reducible refine Kd.C_alloc ?_ _) | (with_reducible refine Kd.C_drewN ?_ _) | (with_reducible refine Kd.C_drew ?_))); (case side4 => exact (Kd.R_reads' HO461.out).2.1); rintro e w32 ⟨rfl, hb⟩; replace HO461 := Aside0.mk (rbz HO461 hb); replace HO467 := Aside0.mk (rbz HO467 hb); replace HB := Aside0.mk (below_step bz hb); (try clear hb)))
      go_meet
      case rel => exact ⟨_, (!t474), rz, H', ⟨qz⟩, ⟨hr HO461.out⟩, ⟨hr HO467.out⟩, ⟨bz⟩⟩
    case rest =>
     clear HC15; (try clear c1); (try clear c2); (try clear p2); (try clear c3); (try clear c3b0); (try clear c4); (try clear c10); (try clear c13); (try clear c26); (try clear c28); (try clear c30); (try clear c30b0); (try clear c31); (try clear c32); obtain ⟨kq, x42_14, rfl, HA, HJ14, HO_4, HO_6, HB⟩ := hcut
     cases kq with
     | zero => exact absurd HA.out (by simp [laws_FnExactAllPieces.j0])
     | succ kj14 =>
      have H := HA.out; clear HA; simp only [laws_FnExactAllPieces.j0] at H
      by_cases c33 : x42_14 = true
      ·subst c33; replace H := ift H; obtain rfl := Option.some.inj H; go_wp2; go_ret
       exact ⟨ez, bz⟩
      ·replace c33 := Bool.eq_false_iff.mpr c33; subst c33; replace H := iff_ H; replace H := Option.bind_eq_some_iff.mp H; obtain ⟨⟨t475, t476⟩, A340, H⟩ := H; replace H : ((laws_heldPieceS.f kj14 t476 1).bind fun t477 => (if t477 < 0 then (some false) else (if t477 = t475 then ((laws_toFeatureS.f kj14 l0).bind fun t478 => ((impl_AllPieces.f kj14 t478).bind fun t481 => ((laws_eqPieceS.f kj14 t481 t459).bind fun t484 => (if t484 = true then ((laws_heldPieceS.f kj14 t476 1).bind fun t485 => (if t485 < 0 then (some false) else (if t485 = t475 then (some true) else (some false)))) else (some false))))) else (some false)))) = some r := H; have A34 := Aside0.mk A340; clear A340; replace H := Option.bind_eq_some_iff.mp H; obtain ⟨t477, A350, H⟩ := H; have A35 := Aside0.mk A350; clear A350
       by_cases c36 : t477 < 0
       ·rw [if_pos c36] at H; have c36b0 := decide_eq_true c36; clear c36; obtain rfl := Option.some.inj H; go_wp2_with (first | ((with_reducible refine gt (some 45) rfl ?_); refine gc Try.func50 (laws_markPieceS.calls kj14 (fun k_ => some k_ = (.slice Ao23 t465.length co23 : Value).ownBlock) (.slice Ao23 t465.length co23) t465 1 t475 t476 w _ (by repeat (first | (with_reducible first | exact HB.out | apply below_alloc | apply pw_below_drewN | apply below_drew1) | exact HB.out)) (Kd.R_tight rfl HO_6.out) A34.out) ?_; rintro e w37 ⟨rfl, hy0, hb, hkp⟩; refine ⟨_, rfl, ?_⟩; replace HO_4 := Aside0.mk (Kd.R_mono (ok' := fun k_ => some k_ ≠ (.slice Ao23 t465.length co23 : Value).ownBlock) (Kd.R_keptB (HO_4.out) hkp (fun k_ hk_ hs_ => absurd hs_ (by first | exact hk_ | exact hk_.1.2 | exact hk_.1.1 | exact hk_.1 | exact hk_.2 | exact hk_.1.1.2 | exact hk_))) (fun k_ hk_ => hk_.1)); replace HO_6 := Aside0.mk (Kd.R_reok rfl hy0 (fun k_ e_ => HO_6.out.1 k_ e_)); replace HB := Aside0.mk (hb); (try clear hb); (try clear hkp); (try clear hy0)) | ((with_reducible refine gate_callee (f := 51) rfl ?_); refine gl (some 48) Try.func51 #[.slice Ao23 t476.length co23, .int .i64 1] ?_ (hargs := by (try simp only [List.map_toArray, List.map_cons, List.map_nil]); first | done | (rw [show t476.length = t465.length from (Kd.R_reads' HO_6.out).1.symm] <;> rfl) | rfl | (simp only [List.length_drop, List.length_take]; rfl)); (with_reducible refine (laws_heldPieceS.calls kj14 _ _ t476 1 t477 _ ?side1 ?side2 A35.out).mono ?_); (case side1 => repeat (first | exact (Kd.R_reads' HO_6.out).2.2 | (with_reducible refine Kd.C_alloc ?_ _) | (with_reducible refine Kd.C_drewN ?_ _) | (with_reducible refine Kd.C_drew ?_))); (case side2 => rw [show t476.length = t465.length from (Kd.R_reads' HO_6.out).1.symm]; exact (Kd.R_reads' HO_6.out).2.1); rintro e w' ⟨rfl, ⟨nd, rfl⟩⟩; refine ⟨_, rfl, ?_⟩))
        go_ret
        exact ⟨ez, bz⟩
       ·rw [if_neg c36] at H; have c36b0 := decide_eq_false c36; clear c36
        by_cases c38 : t477 = t475
        ·rw [if_pos c38] at H; have c38b0 : (t477 == t475) = true := beq_iff_eq.mpr c38; have c38b1 : (t477 != t475) = false := bne_eq_false_iff_eq.mpr c38; clear c38; replace H := Option.bind_eq_some_iff.mp H; obtain ⟨t478, A390, H⟩ := H; have A39 := Aside0.mk A390; clear A390; replace H := Option.bind_eq_some_iff.mp H; obtain ⟨t481, A400, H⟩ := H; have A40 := Aside0.mk A400; clear A400; replace H := Option.bind_eq_some_iff.mp H; obtain ⟨t484, A410, H⟩ := H; have A41 := Aside0.mk A410; clear A410
         by_cases c42 : t484 = true
         ·subst c42; replace H := ift H; replace H := Option.bind_eq_some_iff.mp H; obtain ⟨t485, A430, H⟩ := H; have A43 := Aside0.mk A430; clear A430
          by_cases c44 : t485 < 0
          ·rw [if_pos c44] at H; have c44b0 := decide_eq_true c44; clear c44; obtain rfl := Option.some.inj H; go_wp2_with (first | ((with_reducible refine gt (some 45) rfl ?_); refine gc Try.func50 (laws_markPieceS.calls kj14 (fun k_ => some k_ = (.slice Ao23 t465.length co23 : Value).ownBlock) (.slice Ao23 t465.length co23) t465 1 t475 t476 w _ (by repeat (first | (with_reducible first | exact HB.out | apply below_alloc | apply pw_below_drewN | apply below_drew1) | exact HB.out)) (Kd.R_tight rfl HO_6.out) A34.out) ?_; rintro e w45 ⟨rfl, hy0, hb, hkp⟩; refine ⟨_, rfl, ?_⟩; replace HO_4 := Aside0.mk (Kd.R_mono (ok' := fun k_ => some k_ ≠ (.slice Ao23 t465.length co23 : Value).ownBlock) (Kd.R_keptB (HO_4.out) hkp (fun k_ hk_ hs_ => absurd hs_ (by first | exact hk_ | exact hk_.1.2 | exact hk_.1.1 | exact hk_.1 | exact hk_.2 | exact hk_.1.1.2 | exact hk_))) (fun k_ hk_ => hk_.1)); replace HO_6 := Aside0.mk (Kd.R_reok rfl hy0 (fun k_ e_ => HO_6.out.1 k_ e_)); replace HB := Aside0.mk (hb); (try clear hb); (try clear hkp); (try clear hy0)) | ((with_reducible refine gate_callee (f := 51) rfl ?_); refine gl (some 48) Try.func51 #[.slice Ao23 t476.length co23, .int .i64 1] ?_ (hargs := by (try simp only [List.map_toArray, List.map_cons, List.map_nil]); first | done | (rw [show t476.length = t465.length from (Kd.R_reads' HO_6.out).1.symm] <;> rfl) | rfl | (simp only [List.length_drop, List.length_take]; rfl)); (with_reducible refine (laws_heldPieceS.calls kj14 _ _ t476 1 t477 _ ?side1 ?side2 A35.out).mono ?_); (case side1 => repeat (first | exact (Kd.R_reads' HO_6.out).2.2 | (with_reducible refine Kd.C_alloc ?_ _) | (with_reducible refine Kd.C_drewN ?_ _) | (with_reducible refine Kd.C_drew ?_))); (case side2 => rw [show t476.length = t465.length from (Kd.R_reads' HO_6.out).1.symm]; exact (Kd.R_reads' HO_6.out).2.1); rintro e w' ⟨rfl, ⟨nd, rfl⟩⟩; refine ⟨_, rfl, ?_⟩) | ((with_reducible refine gt (some 55) rfl ?_); refine gc Try.func28 (laws_toFeatureS.calls kj14 A0 c0 l0 t478 _ (cz (Kd.C_below HR0.out bz)) HC0.out A39.out) ?_; rintro e w46 ⟨v479, rfl, ho0, hb⟩; refine ⟨_, rfl, ?_⟩; replace HO_4 := Aside0.mk (rbz HO_4 hb); replace HO_6 := Aside0.mk (rbz HO_6 hb); have HO480 := Aside0.mk (Kd.S_lower ho0 (below_size bz)); replace HB := Aside0.mk (below_step bz hb); (try clear hb); (try clear ho0); obtain ⟨Ao47, co47, eo47⟩ := Kd.S_slice HO480.out; subst eo47) | ((with_reducible refine gt (some 56) rfl ?_); refine gc Try.func48 (impl_AllPieces.calls kj14 _ _ t478 t481 _ (cz (Kd.S_reads' HO480.out).2.2) ((Kd.S_reads' HO480.out).2.1) A40.out) ?_; rintro e w48 ⟨v482, rfl, ho0, hb⟩; refine ⟨_, rfl, ?_⟩; replace HO480 := Aside0.mk (Kd.S_below (by (with_reducible repeat (first | apply Kd.S_alloc | apply Kd.S_drewN | apply Kd.S_drew)); exact HO480.out) hb); have HO483 := Aside0.mk (Kd.R_lower (Kd.R_new' (Kd.R_new' ho0 (Kd.R_lt (hr HO_4.out))) (Kd.R_lt (hr HO_6.out))) (below_size bz)); replace HO_4 := Aside0.mk (Kd.R_elder' (hr HO_4.out) (Kd.R_base ho0) hb); replace HO_6 := Aside0.mk (Kd.R_elder' (hr HO_6.out) (Kd.R_base ho0) hb); replace HB := Aside0.mk (below_step bz hb); (try clear hb); (try clear ho0); obtain ⟨Ao49, co49, eo49⟩ := Kd.R_slice HO483.out; subst eo49) | ((with_reducible refine gt (some 59) rfl ?_); refine gc Try.func49 (laws_eqPieceS.calls kj14 _ _ t481 _ _ t459 true _ (cz (Kd.R_reads' HO483.out).2.2) ((Kd.R_reads' HO483.out).2.1) (cz (Kd.R_reads' HO_4.out).2.2) ((Kd.R_reads' HO_4.out).2.1) A41.out) ?_; rintro e w50 ⟨rfl, hb⟩; refine ⟨_, rfl, ?_⟩; replace HO_4 := Aside0.mk (rbz HO_4 hb); replace HO_6 := Aside0.mk (rbz HO_6 hb); replace HO480 := Aside0.mk (Kd.S_below (by (with_reducible repeat (first | apply Kd.S_alloc | apply Kd.S_drewN | apply Kd.S_drew)); exact HO480.out) hb); replace HO483 := Aside0.mk (rbz HO483 hb); replace HB := Aside0.mk (below_step bz hb); (try clear hb)) | ((with_reducible refine gate_callee (f := 51) rfl ?_); refine gl (some 63) Try.func51 #[.slice Ao23 t476.length co23, .int .i64 1] ?_ (hargs := by (try simp only [List.map_toArray, List.map_cons, List.map_nil]); first | done | (rw [show t476.length = t465.length from (Kd.R_reads' HO_6.out).1.symm] <;> rfl) | rfl | (simp only [List.length_drop, List.length_take]; rfl)); (with_reducible refine (laws_heldPieceS.calls kj14 _ _ t476 1 t485 _ ?side1 ?side2 A43.out).mono ?_); (case side1 => repeat (first | exact (Kd.R_reads' HO_6.out).2.2 | (with_reducible refine Kd.C_alloc ?_ _) | (with_reducible refine Kd.C_drewN ?_ _) | (with_reducible refine Kd.C_drew ?_))); (case side2 => rw [show t476.length = t465.length from (Kd.R_reads' HO_6.out).1.symm]; exact (Kd.R_reads' HO_6.out).2.1); rintro e w' ⟨rfl, ⟨nd, rfl⟩⟩; refine ⟨_, rfl, ?_⟩))
           go_ret
           exact ⟨ez, bz⟩
          ·rw [if_neg c44] at H; have c44b0 := decide_eq_false c44; clear c44
           by_cases c51 : t485 = t475
           ·rw [if_pos c51] at H; have c51b0 : (t485 == t475) = true := beq_iff_eq.mpr c51; have c51b1 : (t485 != t475) = false := bne_eq_false_iff_eq.mpr c51; clear c51; obtain rfl := Option.some.inj H; go_wp2_with (first | ((with_reducible refine gt (some 45) rfl ?_); refine gc Try.func50 (laws_markPieceS.calls kj14 (fun k_ => some k_ = (.slice Ao23 t465.length co23 : Value).ownBlock) (.slice Ao23 t465.length co23) t465 1 t475 t476 w _ (by repeat (first | (with_reducible first | exact HB.out | apply below_alloc | apply pw_below_drewN | apply below_drew1) | exact HB.out)) (Kd.R_tight rfl HO_6.out) A34.out) ?_; rintro e w52 ⟨rfl, hy0, hb, hkp⟩; refine ⟨_, rfl, ?_⟩; replace HO_4 := Aside0.mk (Kd.R_mono (ok' := fun k_ => some k_ ≠ (.slice Ao23 t465.length co23 : Value).ownBlock) (Kd.R_keptB (HO_4.out) hkp (fun k_ hk_ hs_ => absurd hs_ (by first | exact hk_ | exact hk_.1.2 | exact hk_.1.1 | exact hk_.1 | exact hk_.2 | exact hk_.1.1.2 | exact hk_))) (fun k_ hk_ => hk_.1)); replace HO_6 := Aside0.mk (Kd.R_reok rfl hy0 (fun k_ e_ => HO_6.out.1 k_ e_)); replace HB := Aside0.mk (hb); (try clear hb); (try clear hkp); (try clear hy0)) | ((with_reducible refine gate_callee (f := 51) rfl ?_); refine gl (some 48) Try.func51 #[.slice Ao23 t476.length co23, .int .i64 1] ?_ (hargs := by (try simp only [List.map_toArray, List.map_cons, List.map_nil]); first | done | (rw [show t476.length = t465.length from (Kd.R_reads' HO_6.out).1.symm] <;> rfl) | rfl | (simp only [List.length_drop, List.length_take]; rfl)); (with_reducible refine (laws_heldPieceS.calls kj14 _ _ t476 1 t477 _ ?side1 ?side2 A35.out).mono ?_); (case side1 => repeat (first | exact (Kd.R_reads' HO_6.out).2.2 | (with_reducible refine Kd.C_alloc ?_ _) | (with_reducible refine Kd.C_drewN ?_ _) | (with_reducible refine Kd.C_drew ?_))); (case side2 => rw [show t476.length = t465.length from (Kd.R_reads' HO_6.out).1.symm]; exact (Kd.R_reads' HO_6.out).2.1); rintro e w' ⟨rfl, ⟨nd, rfl⟩⟩; refine ⟨_, rfl, ?_⟩) | ((with_reducible refine gt (some 55) rfl ?_); refine gc Try.func28 (laws_toFeatureS.calls kj14 A0 c0 l0 t478 _ (cz (Kd.C_below HR0.out bz)) HC0.out A39.out) ?_; rintro e w53 ⟨v479, rfl, ho0, hb⟩; refine ⟨_, rfl, ?_⟩; replace HO_4 := Aside0.mk (rbz HO_4 hb); replace HO_6 := Aside0.mk (rbz HO_6 hb); have HO480 := Aside0.mk (Kd.S_lower ho0 (below_size bz)); replace HB := Aside0.mk (below_step bz hb); (try clear hb); (try clear ho0); obtain ⟨Ao54, co54, eo54⟩ := Kd.S_slice HO480.out; subst eo54) | ((with_reducible refine gt (some 56) rfl ?_); refine gc Try.func48 (impl_AllPieces.calls kj14 _ _ t478 t481 _ (cz (Kd.S_reads' HO480.out).2.2) ((Kd.S_reads' HO480.out).2.1) A40.out) ?_; rintro e w55 ⟨v482, rfl, ho0, hb⟩; refine ⟨_, rfl, ?_⟩; replace HO480 := Aside0.mk (Kd.S_below (by (with_reducible repeat (first | apply Kd.S_alloc | apply Kd.S_drewN | apply Kd.S_drew)); exact HO480.out) hb); have HO483 := Aside0.mk (Kd.R_lower (Kd.R_new' (Kd.R_new' ho0 (Kd.R_lt (hr HO_4.out))) (Kd.R_lt (hr HO_6.out))) (below_size bz)); replace HO_4 := Aside0.mk (Kd.R_elder' (hr HO_4.out) (Kd.R_base ho0) hb); replace HO_6 := Aside0.mk (Kd.R_elder' (hr HO_6.out) (Kd.R_base ho0) hb); replace HB := Aside0.mk (below_step bz hb); (try clear hb); (try clear ho0); obtain ⟨Ao56, co56, eo56⟩ := Kd.R_slice HO483.out; subst eo56) | ((with_reducible refine gt (some 59) rfl ?_); refine gc Try.func49 (laws_eqPieceS.calls kj14 _ _ t481 _ _ t459 true _ (cz (Kd.R_reads' HO483.out).2.2) ((Kd.R_reads' HO483.out).2.1) (cz (Kd.R_reads' HO_4.out).2.2) ((Kd.R_reads' HO_4.out).2.1) A41.out) ?_; rintro e w57 ⟨rfl, hb⟩; refine ⟨_, rfl, ?_⟩; replace HO_4 := Aside0.mk (rbz HO_4 hb); replace HO_6 := Aside0.mk (rbz HO_6 hb); replace HO480 := Aside0.mk (Kd.S_below (by (with_reducible repeat (first | apply Kd.S_alloc | apply Kd.S_drewN | apply Kd.S_drew)); exact HO480.out) hb); replace HO483 := Aside0.mk (rbz HO483 hb); replace HB := Aside0.mk (below_step bz hb); (try clear hb)) | ((with_reducible refine gate_callee (f := 51) rfl ?_); refine gl (some 63) Try.func51 #[.slice Ao23 t476.length co23, .int .i64 1] ?_ (hargs := by (try simp only [List.map_toArray, List.map_cons, List.map_nil]); first | done | (rw [show t476.length = t465.length from (Kd.R_reads' HO_6.out).1.symm] <;> rfl) | rfl | (simp only [List.length_drop, List.length_take]; rfl)); (with_reducible refine (laws_heldPieceS.calls kj14 _ _ t476 1 t485 _ ?side1 ?side2 A43.out).mono ?_); (case side1 => repeat (first | exact (Kd.R_reads' HO_6.out).2.2 | (with_reducible refine Kd.C_alloc ?_ _) | (with_reducible refine Kd.C_drewN ?_ _) | (with_reducible refine Kd.C_drew ?_))); (case side2 => rw [show t476.length = t465.length from (Kd.R_reads' HO_6.out).1.symm]; exact (Kd.R_reads' HO_6.out).2.1); rintro e w' ⟨rfl, ⟨nd, rfl⟩⟩; refine ⟨_, rfl, ?_⟩))
            go_ret
            exact ⟨ez, bz⟩
           ·rw [if_neg c51] at H; have c51b0 : (t485 == t475) = false := beq_eq_false_iff_ne.mpr c51; have c51b1 : (t485 != t475) = true := bne_iff_ne.mpr c51; obtain rfl := Option.some.inj H; go_wp2_with (first | ((with_reducible refine gt (some 45) rfl ?_); refine gc Try.func50 (laws_markPieceS.calls kj14 (fun k_ => some k_ = (.slice Ao23 t465.length co23 : Value).ownBlock) (.slice Ao23 t465.length co23) t465 1 t475 t476 w _ (by repeat (first | (with_reducible first | exact HB.out | apply below_alloc | apply pw_below_drewN | apply below_drew1) | exact HB.out)) (Kd.R_tight rfl HO_6.out) A34.out) ?_; rintro e w58 ⟨rfl, hy0, hb, hkp⟩; refine ⟨_, rfl, ?_⟩; replace HO_4 := Aside0.mk (Kd.R_mono (ok' := fun k_ => some k_ ≠ (.slice Ao23 t465.length co23 : Value).ownBlock) (Kd.R_keptB (HO_4.out) hkp (fun k_ hk_ hs_ => absurd hs_ (by first | exact hk_ | exact hk_.1.2 | exact hk_.1.1 | exact hk_.1 | exact hk_.2 | exact hk_.1.1.2 | exact hk_))) (fun k_ hk_ => hk_.1)); replace HO_6 := Aside0.mk (Kd.R_reok rfl hy0 (fun k_ e_ => HO_6.out.1 k_ e_)); replace HB := Aside0.mk (hb); (try clear hb); (try clear hkp); (try clear hy0)) | ((with_reducible refine gate_callee (f := 51) rfl ?_); refine gl (some 48) Try.func51 #[.slice Ao23 t476.length co23, .int .i64 1] ?_ (hargs := by (try simp only [List.map_toArray, List.map_cons, List.map_nil]); first | done | (rw [show t476.length = t465.length from (Kd.R_reads' HO_6.out).1.symm] <;> rfl) | rfl | (simp only [List.length_drop, List.length_take]; rfl)); (with_reducible refine (laws_heldPieceS.calls kj14 _ _ t476 1 t477 _ ?side1 ?side2 A35.out).mono ?_); (case side1 => repeat (first | exact (Kd.R_reads' HO_6.out).2.2 | (with_reducible refine Kd.C_alloc ?_ _) | (with_reducible refine Kd.C_drewN ?_ _) | (with_reducible refine Kd.C_drew ?_))); (case side2 => rw [show t476.length = t465.length from (Kd.R_reads' HO_6.out).1.symm]; exact (Kd.R_reads' HO_6.out).2.1); rintro e w' ⟨rfl, ⟨nd, rfl⟩⟩; refine ⟨_, rfl, ?_⟩) | ((with_reducible refine gt (some 55) rfl ?_); refine gc Try.func28 (laws_toFeatureS.calls kj14 A0 c0 l0 t478 _ (cz (Kd.C_below HR0.out bz)) HC0.out A39.out) ?_; rintro e w59 ⟨v479, rfl, ho0, hb⟩; refine ⟨_, rfl, ?_⟩; replace HO_4 := Aside0.mk (rbz HO_4 hb); replace HO_6 := Aside0.mk (rbz HO_6 hb); have HO480 := Aside0.mk (Kd.S_lower ho0 (below_size bz)); replace HB := Aside0.mk (below_step bz hb); (try clear hb); (try clear ho0); obtain ⟨Ao60, co60, eo60⟩ := Kd.S_slice HO480.out; subst eo60) | ((with_reducible refine gt (some 56) rfl ?_); refine gc Try.func48 (impl_AllPieces.calls kj14 _ _ t478 t481 _ (cz (Kd.S_reads' HO480.out).2.2) ((Kd.S_reads' HO480.out).2.1) A40.out) ?_; rintro e w61 ⟨v482, rfl, ho0, hb⟩; refine ⟨_, rfl, ?_⟩; replace HO480 := Aside0.mk (Kd.S_below (by (with_reducible repeat (first | apply Kd.S_alloc | apply Kd.S_drewN | apply Kd.S_drew)); exact HO480.out) hb); have HO483 := Aside0.mk (Kd.R_lower (Kd.R_new' (Kd.R_new' ho0 (Kd.R_lt (hr HO_4.out))) (Kd.R_lt (hr HO_6.out))) (below_size bz)); replace HO_4 := Aside0.mk (Kd.R_elder' (hr HO_4.out) (Kd.R_base ho0) hb); replace HO_6 := Aside0.mk (Kd.R_elder' (hr HO_6.out) (Kd.R_base ho0) hb); replace HB := Aside0.mk (below_step bz hb); (try clear hb); (try clear ho0); obtain ⟨Ao62, co62, eo62⟩ := Kd.R_slice HO483.out; subst eo62) | ((with_reducible refine gt (some 59) rfl ?_); refine gc Try.func49 (laws_eqPieceS.calls kj14 _ _ t481 _ _ t459 true _ (cz (Kd.R_reads' HO483.out).2.2) ((Kd.R_reads' HO483.out).2.1) (cz (Kd.R_reads' HO_4.out).2.2) ((Kd.R_reads' HO_4.out).2.1) A41.out) ?_; rintro e w63 ⟨rfl, hb⟩; refine ⟨_, rfl, ?_⟩; replace HO_4 := Aside0.mk (rbz HO_4 hb); replace HO_6 := Aside0.mk (rbz HO_6 hb); replace HO480 := Aside0.mk (Kd.S_below (by (with_reducible repeat (first | apply Kd.S_alloc | apply Kd.S_drewN | apply Kd.S_drew)); exact HO480.out) hb); replace HO483 := Aside0.mk (rbz HO483 hb); replace HB := Aside0.mk (below_step bz hb); (try clear hb)) | ((with_reducible refine gate_callee (f := 51) rfl ?_); refine gl (some 63) Try.func51 #[.slice Ao23 t476.length co23, .int .i64 1] ?_ (hargs := by (try simp only [List.map_toArray, List.map_cons, List.map_nil]); first | done | (rw [show t476.length = t465.length from (Kd.R_reads' HO_6.out).1.symm] <;> rfl) | rfl | (simp only [List.length_drop, List.length_take]; rfl)); (with_reducible refine (laws_heldPieceS.calls kj14 _ _ t476 1 t485 _ ?side1 ?side2 A43.out).mono ?_); (case side1 => repeat (first | exact (Kd.R_reads' HO_6.out).2.2 | (with_reducible refine Kd.C_alloc ?_ _) | (with_reducible refine Kd.C_drewN ?_ _) | (with_reducible refine Kd.C_drew ?_))); (case side2 => rw [show t476.length = t465.length from (Kd.R_reads' HO_6.out).1.symm]; exact (Kd.R_reads' HO_6.out).2.1); rintro e w' ⟨rfl, ⟨nd, rfl⟩⟩; refine ⟨_, rfl, ?_⟩))
            go_ret
            exact ⟨ez, bz⟩
         ·replace c42 := Bool.eq_false_iff.mpr c42; subst c42; replace H := iff_ H; obtain rfl := Option.some.inj H; go_wp2_with (first | ((with_reducible refine gt (some 45) rfl ?_); refine gc Try.func50 (laws_markPieceS.calls kj14 (fun k_ => some k_ = (.slice Ao23 t465.length co23 : Value).ownBlock) (.slice Ao23 t465.length co23) t465 1 t475 t476 w _ (by repeat (first | (with_reducible first | exact HB.out | apply below_alloc | apply pw_below_drewN | apply below_drew1) | exact HB.out)) (Kd.R_tight rfl HO_6.out) A34.out) ?_; rintro e w64 ⟨rfl, hy0, hb, hkp⟩; refine ⟨_, rfl, ?_⟩; replace HO_4 := Aside0.mk (Kd.R_mono (ok' := fun k_ => some k_ ≠ (.slice Ao23 t465.length co23 : Value).ownBlock) (Kd.R_keptB (HO_4.out) hkp (fun k_ hk_ hs_ => absurd hs_ (by first | exact hk_ | exact hk_.1.2 | exact hk_.1.1 | exact hk_.1 | exact hk_.2 | exact hk_.1.1.2 | exact hk_))) (fun k_ hk_ => hk_.1)); replace HO_6 := Aside0.mk (Kd.R_reok rfl hy0 (fun k_ e_ => HO_6.out.1 k_ e_)); replace HB := Aside0.mk (hb); (try clear hb); (try clear hkp); (try clear hy0)) | ((with_reducible refine gate_callee (f := 51) rfl ?_); refine gl (some 48) Try.func51 #[.slice Ao23 t476.length co23, .int .i64 1] ?_ (hargs := by (try simp only [List.map_toArray, List.map_cons, List.map_nil]); first | done | (rw [show t476.length = t465.length from (Kd.R_reads' HO_6.out).1.symm] <;> rfl) | rfl | (simp only [List.length_drop, List.length_take]; rfl)); (with_reducible refine (laws_heldPieceS.calls kj14 _ _ t476 1 t477 _ ?side1 ?side2 A35.out).mono ?_); (case side1 => repeat (first | exact (Kd.R_reads' HO_6.out).2.2 | (with_reducible refine Kd.C_alloc ?_ _) | (with_reducible refine Kd.C_drewN ?_ _) | (with_reducible refine Kd.C_drew ?_))); (case side2 => rw [show t476.length = t465.length from (Kd.R_reads' HO_6.out).1.symm]; exact (Kd.R_reads' HO_6.out).2.1); rintro e w' ⟨rfl, ⟨nd, rfl⟩⟩; refine ⟨_, rfl, ?_⟩) | ((with_reducible refine gt (some 55) rfl ?_); refine gc Try.func28 (laws_toFeatureS.calls kj14 A0 c0 l0 t478 _ (cz (Kd.C_below HR0.out bz)) HC0.out A39.out) ?_; rintro e w65 ⟨v479, rfl, ho0, hb⟩; refine ⟨_, rfl, ?_⟩; replace HO_4 := Aside0.mk (rbz HO_4 hb); replace HO_6 := Aside0.mk (rbz HO_6 hb); have HO480 := Aside0.mk (Kd.S_lower ho0 (below_size bz)); replace HB := Aside0.mk (below_step bz hb); (try clear hb); (try clear ho0); obtain ⟨Ao66, co66, eo66⟩ := Kd.S_slice HO480.out; subst eo66) | ((with_reducible refine gt (some 56) rfl ?_); refine gc Try.func48 (impl_AllPieces.calls kj14 _ _ t478 t481 _ (cz (Kd.S_reads' HO480.out).2.2) ((Kd.S_reads' HO480.out).2.1) A40.out) ?_; rintro e w67 ⟨v482, rfl, ho0, hb⟩; refine ⟨_, rfl, ?_⟩; replace HO480 := Aside0.mk (Kd.S_below (by (with_reducible repeat (first | apply Kd.S_alloc | apply Kd.S_drewN | apply Kd.S_drew)); exact HO480.out) hb); have HO483 := Aside0.mk (Kd.R_lower (Kd.R_new' (Kd.R_new' ho0 (Kd.R_lt (hr HO_4.out))) (Kd.R_lt (hr HO_6.out))) (below_size bz)); replace HO_4 := Aside0.mk (Kd.R_elder' (hr HO_4.out) (Kd.R_base ho0) hb); replace HO_6 := Aside0.mk (Kd.R_elder' (hr HO_6.out) (Kd.R_base ho0) hb); replace HB := Aside0.mk (below_step bz hb); (try clear hb); (try clear ho0); obtain ⟨Ao68, co68, eo68⟩ := Kd.R_slice HO483.out; subst eo68) | ((with_reducible refine gt (some 59) rfl ?_); refine gc Try.func49 (laws_eqPieceS.calls kj14 _ _ t481 _ _ t459 false _ (cz (Kd.R_reads' HO483.out).2.2) ((Kd.R_reads' HO483.out).2.1) (cz (Kd.R_reads' HO_4.out).2.2) ((Kd.R_reads' HO_4.out).2.1) A41.out) ?_; rintro e w69 ⟨rfl, hb⟩; refine ⟨_, rfl, ?_⟩; replace HO_4 := Aside0.mk (rbz HO_4 hb); replace HO_6 := Aside0.mk (rbz HO_6 hb); replace HO480 := Aside0.mk (Kd.S_below (by (with_reducible repeat (first | apply Kd.S_alloc | apply Kd.S_drewN | apply Kd.S_drew)); exact HO480.out) hb); replace HO483 := Aside0.mk (rbz HO483 hb); replace HB := Aside0.mk (below_step bz hb); (try clear hb)))
          go_ret
          exact ⟨ez, bz⟩
        ·rw [if_neg c38] at H; have c38b0 : (t477 == t475) = false := beq_eq_false_iff_ne.mpr c38; have c38b1 : (t477 != t475) = true := bne_iff_ne.mpr c38; obtain rfl := Option.some.inj H; go_wp2_with (first | ((with_reducible refine gt (some 45) rfl ?_); refine gc Try.func50 (laws_markPieceS.calls kj14 (fun k_ => some k_ = (.slice Ao23 t465.length co23 : Value).ownBlock) (.slice Ao23 t465.length co23) t465 1 t475 t476 w _ (by repeat (first | (with_reducible first | exact HB.out | apply below_alloc | apply pw_below_drewN | apply below_drew1) | exact HB.out)) (Kd.R_tight rfl HO_6.out) A34.out) ?_; rintro e w70 ⟨rfl, hy0, hb, hkp⟩; refine ⟨_, rfl, ?_⟩; replace HO_4 := Aside0.mk (Kd.R_mono (ok' := fun k_ => some k_ ≠ (.slice Ao23 t465.length co23 : Value).ownBlock) (Kd.R_keptB (HO_4.out) hkp (fun k_ hk_ hs_ => absurd hs_ (by first | exact hk_ | exact hk_.1.2 | exact hk_.1.1 | exact hk_.1 | exact hk_.2 | exact hk_.1.1.2 | exact hk_))) (fun k_ hk_ => hk_.1)); replace HO_6 := Aside0.mk (Kd.R_reok rfl hy0 (fun k_ e_ => HO_6.out.1 k_ e_)); replace HB := Aside0.mk (hb); (try clear hb); (try clear hkp); (try clear hy0)) | ((with_reducible refine gate_callee (f := 51) rfl ?_); refine gl (some 48) Try.func51 #[.slice Ao23 t476.length co23, .int .i64 1] ?_ (hargs := by (try simp only [List.map_toArray, List.map_cons, List.map_nil]); first | done | (rw [show t476.length = t465.length from (Kd.R_reads' HO_6.out).1.symm] <;> rfl) | rfl | (simp only [List.length_drop, List.length_take]; rfl)); (with_reducible refine (laws_heldPieceS.calls kj14 _ _ t476 1 t477 _ ?side1 ?side2 A35.out).mono ?_); (case side1 => repeat (first | exact (Kd.R_reads' HO_6.out).2.2 | (with_reducible refine Kd.C_alloc ?_ _) | (with_reducible refine Kd.C_drewN ?_ _) | (with_reducible refine Kd.C_drew ?_))); (case side2 => rw [show t476.length = t465.length from (Kd.R_reads' HO_6.out).1.symm]; exact (Kd.R_reads' HO_6.out).2.1); rintro e w' ⟨rfl, ⟨nd, rfl⟩⟩; refine ⟨_, rfl, ?_⟩))
         go_ret
         exact ⟨ez, bz⟩
   ·replace c13 := Bool.eq_false_iff.mpr c13; subst c13; replace H := iff_ H; obtain rfl := Option.some.inj H
    go_enter Try.func10, Try.ntmps10; go_wp2_with (first | ((with_reducible refine gt (some 13) rfl ?_); refine gc Try.func26 (laws_szFeatureS.calls k _ _ l0 1048576 t455 _ (cz HR0.out) HC0.out A2.out) ?_; rintro e w71 ⟨rfl, hb⟩; refine ⟨_, rfl, ?_⟩; replace HB := Aside0.mk (below_step bz hb); (try clear hb)) | ((with_reducible refine gt (some 17) rfl ?_); refine gc Try.func28 (laws_toFeatureS.calls k _ _ l0 t456 _ cz0 HC0.out A5.out) ?_; rintro e w72 ⟨v457, rfl, ho0, hb⟩; refine ⟨_, rfl, ?_⟩; have HO458 := Aside0.mk (Kd.S_lower ho0 (below_size bz)); replace HB := Aside0.mk (below_step bz hb); (try clear hb); (try clear ho0); obtain ⟨Ao73, co73, eo73⟩ := Kd.S_slice HO458.out; subst eo73) | ((with_reducible refine gt (some 18) rfl ?_); refine gc Try.func47 (spec_AllPieces.calls k _ _ t456 t459 _ (cz (Kd.S_reads' HO458.out).2.2) ((Kd.S_reads' HO458.out).2.1) A6.out) ?_; rintro e w74 ⟨v460, rfl, ho0, hb⟩; refine ⟨_, rfl, ?_⟩; replace HO458 := Aside0.mk (Kd.S_below (by (with_reducible repeat (first | apply Kd.S_alloc | apply Kd.S_drewN | apply Kd.S_drew)); exact HO458.out) hb); have HO461 := Aside0.mk (Kd.R_lower ho0 (below_size bz)); replace HB := Aside0.mk (below_step bz hb); (try clear hb); (try clear ho0)) | ((with_reducible refine gt (some 20) rfl ?_); refine gc Try.func28 (laws_toFeatureS.calls k _ _ l0 t462 _ cz0 HC0.out A7.out) ?_; rintro e w75 ⟨v463, rfl, ho0, hb⟩; refine ⟨_, rfl, ?_⟩; replace HO461 := Aside0.mk (rbz HO461 hb); have HO464 := Aside0.mk (Kd.S_lower (Kd.S_new' ho0 (Kd.S_lt (by (with_reducible repeat (first | apply Kd.S_alloc | apply Kd.S_drewN | apply Kd.S_drew)); exact HO458.out))) (below_size bz)); replace HO458 := Aside0.mk (Kd.S_elder' (by (with_reducible repeat (first | apply Kd.S_alloc | apply Kd.S_drewN | apply Kd.S_drew)); exact HO458.out) (Kd.S_base ho0) hb); replace HB := Aside0.mk (below_step bz hb); (try clear hb); (try clear ho0); obtain ⟨Ao76, co76, eo76⟩ := Kd.S_slice HO464.out; subst eo76) | ((with_reducible refine gt (some 22) rfl ?_); refine gc Try.func48 (impl_AllPieces.calls k _ _ t462 t465 _ (cz (Kd.S_reads' HO464.out).2.2) ((Kd.S_reads' HO464.out).2.1) A8.out) ?_; rintro e w77 ⟨v466, rfl, ho0, hb⟩; refine ⟨_, rfl, ?_⟩; replace HO458 := Aside0.mk (Kd.S_below (by (with_reducible repeat (first | apply Kd.S_alloc | apply Kd.S_drewN | apply Kd.S_drew)); exact HO458.out) hb); replace HO464 := Aside0.mk (Kd.S_below (by (with_reducible repeat (first | apply Kd.S_alloc | apply Kd.S_drewN | apply Kd.S_drew)); exact HO464.out) hb); have HO467 := Aside0.mk (Kd.R_lower (Kd.R_new' ho0 (Kd.R_lt (hr HO461.out))) (below_size bz)); replace HO461 := Aside0.mk (Kd.R_elder' (hr HO461.out) (Kd.R_base ho0) hb); replace HB := Aside0.mk (below_step bz hb); (try clear hb); (try clear ho0); obtain ⟨Ao78, co78, eo78⟩ := Kd.R_slice HO467.out; subst eo78; obtain ⟨Ao79, co79, eo79⟩ := Kd.R_slice HO461.out; subst eo79) | ((with_reducible refine gt (some 25) rfl ?_); refine gc Try.func49 (laws_eqPieceS.calls k _ _ t465 _ _ t459 true _ (cz (Kd.R_reads' HO467.out).2.2) ((Kd.R_reads' HO467.out).2.1) (cz (Kd.R_reads' HO461.out).2.2) ((Kd.R_reads' HO461.out).2.1) A9.out) ?_; rintro e w80 ⟨rfl, hb⟩; refine ⟨_, rfl, ?_⟩; replace HO458 := Aside0.mk (Kd.S_below (by (with_reducible repeat (first | apply Kd.S_alloc | apply Kd.S_drewN | apply Kd.S_drew)); exact HO458.out) hb); replace HO461 := Aside0.mk (rbz HO461 hb); replace HO464 := Aside0.mk (Kd.S_below (by (with_reducible repeat (first | apply Kd.S_alloc | apply Kd.S_drewN | apply Kd.S_drew)); exact HO464.out) hb); replace HO467 := Aside0.mk (rbz HO467 hb); replace HB := Aside0.mk (below_step bz hb); (try clear hb)) | ((with_reducible refine gt (some 29) rfl ?_); refine gc Try.func28 (laws_toFeatureS.calls k _ _ l0 t469 _ cz0 HC0.out A11.out) ?_; rintro e w81 ⟨v470, rfl, ho0, hb⟩; refine ⟨_, rfl, ?_⟩; replace HO461 := Aside0.mk (rbz HO461 hb); replace HO467 := Aside0.mk (rbz HO467 hb); have HO471 := Aside0.mk (Kd.S_lower (Kd.S_new' (Kd.S_new' ho0 (Kd.S_lt (by (with_reducible repeat (first | apply Kd.S_alloc | apply Kd.S_drewN | apply Kd.S_drew)); exact HO458.out))) (Kd.S_lt (by (with_reducible repeat (first | apply Kd.S_alloc | apply Kd.S_drewN | apply Kd.S_drew)); exact HO464.out))) (below_size bz)); replace HO458 := Aside0.mk (Kd.S_elder' (by (with_reducible repeat (first | apply Kd.S_alloc | apply Kd.S_drewN | apply Kd.S_drew)); exact HO458.out) (Kd.S_base ho0) hb); replace HO464 := Aside0.mk (Kd.S_elder' (by (with_reducible repeat (first | apply Kd.S_alloc | apply Kd.S_drewN | apply Kd.S_drew)); exact HO464.out) (Kd.S_base ho0) hb); replace HB := Aside0.mk (below_step bz hb); (try clear hb); (try clear ho0); obtain ⟨Ao82, co82, eo82⟩ := Kd.S_slice HO471.out; subst eo82) | ((with_reducible refine gt (some 30) rfl ?_); refine gc Try.func31 (laws_eqFeatureS.calls k _ _ t462 _ _ t469 false _ (cz (Kd.S_reads' HO464.out).2.2) ((Kd.S_reads' HO464.out).2.1) (cz (Kd.S_reads' HO471.out).2.2) ((Kd.S_reads' HO471.out).2.1) A12.out) ?_; rintro e w83 ⟨rfl, hb⟩; refine ⟨_, rfl, ?_⟩; replace HO458 := Aside0.mk (Kd.S_below (by (with_reducible repeat (first | apply Kd.S_alloc | apply Kd.S_drewN | apply Kd.S_drew)); exact HO458.out) hb); replace HO461 := Aside0.mk (rbz HO461 hb); replace HO464 := Aside0.mk (Kd.S_below (by (with_reducible repeat (first | apply Kd.S_alloc | apply Kd.S_drewN | apply Kd.S_drew)); exact HO464.out) hb); replace HO467 := Aside0.mk (rbz HO467 hb); replace HO471 := Aside0.mk (Kd.S_below (by (with_reducible repeat (first | apply Kd.S_alloc | apply Kd.S_drewN | apply Kd.S_drew)); exact HO471.out) hb); replace HB := Aside0.mk (below_step bz hb); (try clear hb)))
    go_ret
    exact ⟨ez, bz⟩
  ·replace c10 := Bool.eq_false_iff.mpr c10; subst c10; replace H := iff_ H; obtain rfl := Option.some.inj H
   go_enter Try.func10, Try.ntmps10; go_wp2_with (first | ((with_reducible refine gt (some 13) rfl ?_); refine gc Try.func26 (laws_szFeatureS.calls k _ _ l0 1048576 t455 _ (cz HR0.out) HC0.out A2.out) ?_; rintro e w84 ⟨rfl, hb⟩; refine ⟨_, rfl, ?_⟩; replace HB := Aside0.mk (below_step bz hb); (try clear hb)) | ((with_reducible refine gt (some 17) rfl ?_); refine gc Try.func28 (laws_toFeatureS.calls k _ _ l0 t456 _ cz0 HC0.out A5.out) ?_; rintro e w85 ⟨v457, rfl, ho0, hb⟩; refine ⟨_, rfl, ?_⟩; have HO458 := Aside0.mk (Kd.S_lower ho0 (below_size bz)); replace HB := Aside0.mk (below_step bz hb); (try clear hb); (try clear ho0); obtain ⟨Ao86, co86, eo86⟩ := Kd.S_slice HO458.out; subst eo86) | ((with_reducible refine gt (some 18) rfl ?_); refine gc Try.func47 (spec_AllPieces.calls k _ _ t456 t459 _ (cz (Kd.S_reads' HO458.out).2.2) ((Kd.S_reads' HO458.out).2.1) A6.out) ?_; rintro e w87 ⟨v460, rfl, ho0, hb⟩; refine ⟨_, rfl, ?_⟩; replace HO458 := Aside0.mk (Kd.S_below (by (with_reducible repeat (first | apply Kd.S_alloc | apply Kd.S_drewN | apply Kd.S_drew)); exact HO458.out) hb); have HO461 := Aside0.mk (Kd.R_lower ho0 (below_size bz)); replace HB := Aside0.mk (below_step bz hb); (try clear hb); (try clear ho0)) | ((with_reducible refine gt (some 20) rfl ?_); refine gc Try.func28 (laws_toFeatureS.calls k _ _ l0 t462 _ cz0 HC0.out A7.out) ?_; rintro e w88 ⟨v463, rfl, ho0, hb⟩; refine ⟨_, rfl, ?_⟩; replace HO461 := Aside0.mk (rbz HO461 hb); have HO464 := Aside0.mk (Kd.S_lower (Kd.S_new' ho0 (Kd.S_lt (by (with_reducible repeat (first | apply Kd.S_alloc | apply Kd.S_drewN | apply Kd.S_drew)); exact HO458.out))) (below_size bz)); replace HO458 := Aside0.mk (Kd.S_elder' (by (with_reducible repeat (first | apply Kd.S_alloc | apply Kd.S_drewN | apply Kd.S_drew)); exact HO458.out) (Kd.S_base ho0) hb); replace HB := Aside0.mk (below_step bz hb); (try clear hb); (try clear ho0); obtain ⟨Ao89, co89, eo89⟩ := Kd.S_slice HO464.out; subst eo89) | ((with_reducible refine gt (some 22) rfl ?_); refine gc Try.func48 (impl_AllPieces.calls k _ _ t462 t465 _ (cz (Kd.S_reads' HO464.out).2.2) ((Kd.S_reads' HO464.out).2.1) A8.out) ?_; rintro e w90 ⟨v466, rfl, ho0, hb⟩; refine ⟨_, rfl, ?_⟩; replace HO458 := Aside0.mk (Kd.S_below (by (with_reducible repeat (first | apply Kd.S_alloc | apply Kd.S_drewN | apply Kd.S_drew)); exact HO458.out) hb); replace HO464 := Aside0.mk (Kd.S_below (by (with_reducible repeat (first | apply Kd.S_alloc | apply Kd.S_drewN | apply Kd.S_drew)); exact HO464.out) hb); have HO467 := Aside0.mk (Kd.R_lower (Kd.R_new' ho0 (Kd.R_lt (hr HO461.out))) (below_size bz)); replace HO461 := Aside0.mk (Kd.R_elder' (hr HO461.out) (Kd.R_base ho0) hb); replace HB := Aside0.mk (below_step bz hb); (try clear hb); (try clear ho0); obtain ⟨Ao91, co91, eo91⟩ := Kd.R_slice HO467.out; subst eo91; obtain ⟨Ao92, co92, eo92⟩ := Kd.R_slice HO461.out; subst eo92) | ((with_reducible refine gt (some 25) rfl ?_); refine gc Try.func49 (laws_eqPieceS.calls k _ _ t465 _ _ t459 false _ (cz (Kd.R_reads' HO467.out).2.2) ((Kd.R_reads' HO467.out).2.1) (cz (Kd.R_reads' HO461.out).2.2) ((Kd.R_reads' HO461.out).2.1) A9.out) ?_; rintro e w93 ⟨rfl, hb⟩; refine ⟨_, rfl, ?_⟩; replace HO458 := Aside0.mk (Kd.S_below (by (with_reducible repeat (first | apply Kd.S_alloc | apply Kd.S_drewN | apply Kd.S_drew)); exact HO458.out) hb); replace HO461 := Aside0.mk (rbz HO461 hb); replace HO464 := Aside0.mk (Kd.S_below (by (with_reducible repeat (first | apply Kd.S_alloc | apply Kd.S_drewN | apply Kd.S_drew)); exact HO464.out) hb); replace HO467 := Aside0.mk (rbz HO467 hb); replace HB := Aside0.mk (below_step bz hb); (try clear hb)))
   go_ret
   exact ⟨ez, bz⟩

end Go.Proofs.Ytdfehjfmihokpaa.PFnExactAllPieces

namespace Go.Proofs.Ytdfehjfmihokpaa.Facts
set_option maxRecDepth 100000
theorem words_app : ∀ (w r : List Char), (∀ c ∈ w, c ≠ ' ') → wordsSigns (w ++ ' ' :: r) = w :: wordsSigns r
  | [], r, _ => rfl
  | c :: w, r, h => by
    have ih := words_app w r (fun x hx => h x (List.mem_cons_of_mem _ hx))
    have hc : c ≠ ' ' := h c List.mem_cons_self
    rw [List.cons_append, wordsSigns.eq_def]
    split
    · rename_i e; cases e
    · rename_i e; injection e with e1 e2; exact absurd e1 hc
    · rename_i e; injection e with e1 e2; subst e1; subst e2; rw [ih]
theorem order : ∃ s : List Char, (∀ c ∈ s, c ≠ ' ') ∧ isSumSigns s = true ∧ ∃ r, Try.prog.initOrder.toList = "harness".toList ++ ' ' :: (s ++ ' ' :: ("cut".toList ++ ' ' :: r)) := by
  refine ⟨['4', '7', 'e', '9', 'e', '5', '6', 'e', '0', 'c', '6', 'd', 'a', 'c', '0', '6', 'e', '5', 'd', '8', 'a', '9', '6', '3', '5', '0', '1', '5', '0', '7', 'a', '6', '1', 'a', '7', '1', 'd', '0', '2', '9', '5', 'c', '4', '6', '1', '1', 'b', 'f', 'f', 'f', 'b', '4', '4', 'b', '5', '6', 'e', 'c', '5', 'a', '5', '0', '4', 'f'], by decide, by decide, ['a', 't', ' ', 'l', 'o', 'o', 'p', '.', 'e', 'x', 'a', 'm', 'p', 'l', 'e', '/', 'g', '0', '3', '0', '0', '5', '/', 'l', 'a', 'w', 's', '.', 'F', 'n', 'E', 'x', 'a', 'c', 't', 'S', 'i', 'z', 'e', 'A', 't', ' ', 'l', 'o', 'o', 'p', '.', 'e', 'x', 'a', 'm', 'p', 'l', 'e', '/', 'g', '0', '3', '0', '0', '5', '/', 'l', 'a', 'w', 's', '.', 'F', 'n', 'E', 'x', 'a', 'c', 't', 'P', 'i', 'e', 'c', 'e', 'D', 'i', 'g', 'e', 's', 't', ' ', 'l', 'o', 'o', 'p', '.', 'e', 'x', 'a', 'm', 'p', 'l', 'e', '/', 'g', '0', '3', '0', '0', '5', '/', 'l', 'a', 'w', 's', '.', 'F', 'n', 'E', 'x', 'a', 'c', 't', 'D', 'r', 'o', 'p', 'F', 'r', 'o', 'm', ' ', 'l', 'o', 'o', 'p', '.', 'e', 'x', 'a', 'm', 'p', 'l', 'e', '/', 'g', '0', '3', '0', '0', '5', '/', 'l', 'a', 'w', 's', '.', 'F', 'n', 'E', 'x', 'a', 'c', 't', 'A', 'n', 'c', 'h', 'o', 'r', 's', 'O', 'f', ' ', 'l', 'o', 'o', 'p', '.', 'e', 'x', 'a', 'm', 'p', 'l', 'e', '/', 'g', '0', '3', '0', '0', '5', '/', 'l', 'a', 'w', 's', '.', 'F', 'n', 'E', 'x', 'a', 'c', 't', 'I', 's', 'C', 'h', 'a', 'r', 't', ' ', 'l', 'o', 'o', 'p', '.', 'e', 'x', 'a', 'm', 'p', 'l', 'e', '/', 'g', '0', '3', '0', '0', '5', '/', 'l', 'a', 'w', 's', '.', 'F', 'n', 'E', 'x', 'a', 'c', 't', 'T', 'o', 'u', 'c', 'h', 'e', 'd', 'T', 'i', 'l', 'e', 's', ' ', 'l', 'o', 'o', 'p', '.', 'e', 'x', 'a', 'm', 'p', 'l', 'e', '/', 'g', '0', '3', '0', '0', '5', '/', 'l', 'a', 'w', 's', '.', 'F', 'n', 'E', 'x', 'a', 'c', 't', 'C', 'a', 'n', 'S', 'h', 'r', 'i', 'n', 'k', ' ', 'l', 'o', 'o', 'p', '.', 'e', 'x', 'a', 'm', 'p', 'l', 'e', '/', 'g', '0', '3', '0', '0', '5', '/', 'l', 'a', 'w', 's', '.', 'F', 'n', 'E', 'x', 'a', 'c', 't', 'A', 'l', 'l', 'P', 'i', 'e', 'c', 'e', 's', ' ', 'l', 'o', 'o', 'p', '.', 'e', 'x', 'a', 'm', 'p', 'l', 'e', '/', 'g', '0', '3', '0', '0', '5', '/', 'l', 'a', 'w', 's', '.', 'F', 'n', 'E', 'x', 'a', 'c', 't', 'P', 'i', 'e', 'c', 'e', 's', 'I', 'n', ' ', 'l', 'o', 'o', 'p', '.', 'e', 'x', 'a', 'm', 'p', 'l', 'e', '/', 'g', '0', '3', '0', '0', '5', '/', 'l', 'a', 'w', 's', '.', 'F', 'n', 'E', 'x', 'a', 'c', 't', 'T', 'i', 'l', 'e', 'D', 'i', 'g', 'e', 's', 't', ' ', 'l', 'o', 'o', 'p', '.', 'e', 'x', 'a', 'm', 'p', 'l', 'e', '/', 'g', '0', '3', '0', '0', '5', '/', 'l', 'a', 'w', 's', '.', 'F', 'n', 'E', 'x', 'a', 'c', 't', 'S', 'h', 'r', 'i', 'n', 'k', 'F', 'e', 'a', 't', 'u', 'r', 'e', ' ', 'l', 'o', 'o', 'p', '.', 'e', 'x', 'a', 'm', 'p', 'l', 'e', '/', 'g', '0', '3', '0', '0', '5', '/', 'l', 'a', 'w', 's', '.', 'F', 'n', 'E', 'x', 'a', 'c', 't', 'S', 'h', 'r', 'i', 'n', 'k', 'A', 'l', 'l'], ?_⟩
  have e : Try.prog.initOrder = String.ofList (['h', 'a', 'r', 'n', 'e', 's', 's'] ++ ' ' :: (['4', '7', 'e', '9', 'e', '5', '6', 'e', '0', 'c', '6', 'd', 'a', 'c', '0', '6', 'e', '5', 'd', '8', 'a', '9', '6', '3', '5', '0', '1', '5', '0', '7', 'a', '6', '1', 'a', '7', '1', 'd', '0', '2', '9', '5', 'c', '4', '6', '1', '1', 'b', 'f', 'f', 'f', 'b', '4', '4', 'b', '5', '6', 'e', 'c', '5', 'a', '5', '0', '4', 'f'] ++ ' ' :: (['c', 'u', 't'] ++ ' ' :: ['a', 't', ' ', 'l', 'o', 'o', 'p', '.', 'e', 'x', 'a', 'm', 'p', 'l', 'e', '/', 'g', '0', '3', '0', '0', '5', '/', 'l', 'a', 'w', 's', '.', 'F', 'n', 'E', 'x', 'a', 'c', 't', 'S', 'i', 'z', 'e', 'A', 't', ' ', 'l', 'o', 'o', 'p', '.', 'e', 'x', 'a', 'm', 'p', 'l', 'e', '/', 'g', '0', '3', '0', '0', '5', '/', 'l', 'a', 'w', 's', '.', 'F', 'n', 'E', 'x', 'a', 'c', 't', 'P', 'i', 'e', 'c', 'e', 'D', 'i', 'g', 'e', 's', 't', ' ', 'l', 'o', 'o', 'p', '.', 'e', 'x', 'a', 'm', 'p', 'l', 'e', '/', 'g', '0', '3', '0', '0', '5', '/', 'l', 'a', 'w', 's', '.', 'F', 'n', 'E', 'x', 'a', 'c', 't', 'D', 'r', 'o', 'p', 'F', 'r', 'o', 'm', ' ', 'l', 'o', 'o', 'p', '.', 'e', 'x', 'a', 'm', 'p', 'l', 'e', '/', 'g', '0', '3', '0', '0', '5', '/', 'l', 'a', 'w', 's', '.', 'F', 'n', 'E', 'x', 'a', 'c', 't', 'A', 'n', 'c', 'h', 'o', 'r', 's', 'O', 'f', ' ', 'l', 'o', 'o', 'p', '.', 'e', 'x', 'a', 'm', 'p', 'l', 'e', '/', 'g', '0', '3', '0', '0', '5', '/', 'l', 'a', 'w', 's', '.', 'F', 'n', 'E', 'x', 'a', 'c', 't', 'I', 's', 'C', 'h', 'a', 'r', 't', ' ', 'l', 'o', 'o', 'p', '.', 'e', 'x', 'a', 'm', 'p', 'l', 'e', '/', 'g', '0', '3', '0', '0', '5', '/', 'l', 'a', 'w', 's', '.', 'F', 'n', 'E', 'x', 'a', 'c', 't', 'T', 'o', 'u', 'c', 'h', 'e', 'd', 'T', 'i', 'l', 'e', 's', ' ', 'l', 'o', 'o', 'p', '.', 'e', 'x', 'a', 'm', 'p', 'l', 'e', '/', 'g', '0', '3', '0', '0', '5', '/', 'l', 'a', 'w', 's', '.', 'F', 'n', 'E', 'x', 'a', 'c', 't', 'C', 'a', 'n', 'S', 'h', 'r', 'i', 'n', 'k', ' ', 'l', 'o', 'o', 'p', '.', 'e', 'x', 'a', 'm', 'p', 'l', 'e', '/', 'g', '0', '3', '0', '0', '5', '/', 'l', 'a', 'w', 's', '.', 'F', 'n', 'E', 'x', 'a', 'c', 't', 'A', 'l', 'l', 'P', 'i', 'e', 'c', 'e', 's', ' ', 'l', 'o', 'o', 'p', '.', 'e', 'x', 'a', 'm', 'p', 'l', 'e', '/', 'g', '0', '3', '0', '0', '5', '/', 'l', 'a', 'w', 's', '.', 'F', 'n', 'E', 'x', 'a', 'c', 't', 'P', 'i', 'e', 'c', 'e', 's', 'I', 'n', ' ', 'l', 'o', 'o', 'p', '.', 'e', 'x', 'a', 'm', 'p', 'l', 'e', '/', 'g', '0', '3', '0', '0', '5', '/', 'l', 'a', 'w', 's', '.', 'F', 'n', 'E', 'x', 'a', 'c', 't', 'T', 'i', 'l', 'e', 'D', 'i', 'g', 'e', 's', 't', ' ', 'l', 'o', 'o', 'p', '.', 'e', 'x', 'a', 'm', 'p', 'l', 'e', '/', 'g', '0', '3', '0', '0', '5', '/', 'l', 'a', 'w', 's', '.', 'F', 'n', 'E', 'x', 'a', 'c', 't', 'S', 'h', 'r', 'i', 'n', 'k', 'F', 'e', 'a', 't', 'u', 'r', 'e', ' ', 'l', 'o', 'o', 'p', '.', 'e', 'x', 'a', 'm', 'p', 'l', 'e', '/', 'g', '0', '3', '0', '0', '5', '/', 'l', 'a', 'w', 's', '.', 'F', 'n', 'E', 'x', 'a', 'c', 't', 'S', 'h', 'r', 'i', 'n', 'k', 'A', 'l', 'l']))) := by kernel_rfl
  rw [e, String.toList_ofList]; rfl
theorem words : ∃ r, behindMainWord (wordsSigns Try.prog.initOrder.toList) = "cut".toList :: r := by
  obtain ⟨s, h1, h2, r, h⟩ := order
  refine ⟨wordsSigns r, ?_⟩
  rw [h, words_app _ _ (by decide), words_app _ _ h1, words_app _ _ (by decide)]
  exact if_pos (by rw [h2]; rfl)
theorem fa (r : List (List Char)) : ((("cut".toList == "gc".toList || "cut".toList == "spec".toList) && (r.isEmpty || r.head? == some "stop".toList)) : Bool) = false := by kernel_rfl
theorem fb (r : List (List Char)) : ("cut".toList == "carried".toList && r.take 2 == ["gc".toList, "cut".toList] && !Try.prog.laysLater && !Try.prog.bearsReflect) = false := by kernel_rfl
theorem fc (r : List (List Char)) : stripLifts liftWords ("cut".toList :: r) = ([], "cut".toList :: r) := by kernel_rfl
theorem fd : Try.prog.laysLater = false := by kernel_rfl
theorem fe : Try.prog.bearsReflect = false := by kernel_rfl
theorem ff : Try.prog.doorFits [] = true := by kernel_rfl
theorem mayEnter' : Try.prog.mayEnter = true := by
  obtain ⟨r, h⟩ := words
  rw [Program.mayEnter.eq_1]
  generalize behindMainWord (wordsSigns Try.prog.initOrder.toList) = z at *
  subst h
  dsimp only
  rw [fa, fb, fc, fd, fe, ff]
  rfl
theorem head' : Try.prog.headLifts = [] := by
  obtain ⟨r, h⟩ := words
  rw [Program.headLifts.eq_1]
  generalize behindMainWord (wordsSigns Try.prog.initOrder.toList) = z at *
  subst h
  rw [fc]
  rfl
theorem lifts' : Try.prog.liftsFinal = false := by
  obtain ⟨r, h⟩ := words
  rw [Program.liftsFinal.eq_1, head']
  generalize behindMainWord (wordsSigns Try.prog.initOrder.toList) = z at *
  subst h
  rfl
theorem make' : Try.prog.make = some .cut := by
  obtain ⟨r, h⟩ := words
  rw [Program.make.eq_1]
  generalize behindMainWord (wordsSigns Try.prog.initOrder.toList) = z at *
  subst h
  rfl
theorem mayEnter : Try.pinned.checked.prog.mayEnter = true := mayEnter'
theorem lifts : Try.pinned.checked.prog.liftsFinal = false := lifts'
theorem make : Try.pinned.checked.prog.make = some .cut := make'
theorem joined {f : FuncId} {fn : Func} {s : ChangeSpec} {c : OpenClaim}
    (h : (c.wf (OpenSpec.ofChange s) && laidOutB Try.pinned.checked.prog && mapsRowed Try.pinned.checked.prog &&
  fn.params.all (Try.pinned.checked.prog.readableRec ·) && namedTie Try.pinned.checked.prog c.named s.vars &&
  (c.stops == []) && (Try.pinned.checked.prog.stops == []) && (c.knobs == []) && (Try.pinned.checked.prog.stopKnobs == []) &&
  (c.inPlace == Try.pinned.checked.prog.inPlace f) && (c.unfollowed == Try.pinned.checked.prog.unfollowed f) && (c.recurses == Try.pinned.checked.prog.recurses f) && (c.named == Try.pinned.checked.prog.varsNamed f) &&
  (c.maps == (fn.params.toList ++ s.plain.varTypes Try.pinned.checked.prog).any (Try.pinned.checked.prog.mapsRec ·)) && (c.ifaces == (fn.params.toList ++ s.plain.varTypes Try.pinned.checked.prog).any (Try.pinned.checked.prog.ifacesRec ·)) && (c.mapsOut == Try.pinned.checked.prog.mapsAmong fn.resultTypes.toList) &&
  (c.loops == (fn.params.toList ++ s.plain.varTypes Try.pinned.checked.prog).any (Try.pinned.checked.prog.loopsFrom ·)) && (c.wideKeys == (fn.params.toList ++ s.plain.varTypes Try.pinned.checked.prog ++ fn.resultTypes.toList).any (Try.pinned.checked.prog.wideKeysFrom ·)) &&
  s.vars.all (Try.pinned.checked.prog.varReadable ·) && fn.resultTypes.all (fun t => Try.pinned.checked.prog.readableRec t && decide (t < Try.pinned.checked.prog.types.size)) && (c.ifacesOut == fn.resultTypes.toList.any (Try.pinned.checked.prog.ifacesRec ·)) && (c.loopsOut == fn.resultTypes.toList.any (Try.pinned.checked.prog.loopsFrom ·)) && (c.plainKeys == Try.pinned.checked.prog.plainKeys) && c.shortTexts.isNone && Try.pinned.checked.prog.stopsHeard && (c.lifted == false) && (some Make.cut == some c.make) && (c.kinds == (if c.domain.isEmpty then [] else fn.params.toList.map fun t => match Try.pinned.checked.prog.underlying t with | some (.int k) => some k | _ => none)) && (c.pinned == c.pinnedBy) &&
  (c.veiled == (fn.params.toList ++ s.plain.varTypes Try.pinned.checked.prog ++ fn.resultTypes.toList).any (Try.pinned.checked.prog.veiledRec ·)) && c.veiledFits Try.pinned.checked.prog fn.params.toList (fn.params.toList ++ s.plain.varTypes Try.pinned.checked.prog ++ fn.resultTypes.toList)) = true) :
    joinedFacts Try.pinned.checked.prog f fn s c = true := by
  unfold joinedFacts
  rw [mayEnter, lifts, make, Bool.and_true]
  exact h
end Go.Proofs.Ytdfehjfmihokpaa.Facts

namespace Go.Proofs.YtdfehjfmihokpaaOpen
open Go Go.RowKit Go.Proofs.YtdfehjfmihokpaaW.PrintWords
variable {P : Program}

/-- A value of type t that is read as data is of kind k, and B holds of what it is. -/
def Opens {α : Type} (P : Program) (t : TypeId) (k : Kd α) (B : α → Prop) : Prop :=
  ∀ (H : Type) (enc : TypeId × Value → H) (W : World) (n : Nat) (cs : List Value) (x : DataW H × List MemPlace),
    DataW.trod enc P W 0 (fun _ => true) true n t cs = some x → ∃ a, k.K W a cs ∧ B a

theorem opens_int {t : TypeId} {k : IntKind} (ht : P.underlying t = some (.int k)) : Opens P t (Kd.int k) (fun n => (Lit.int k n).wf = true) := by
  intro H enc W n cs x h
  obtain ⟨m, rfl, _, hw⟩ := DataW.trod_int ht h
  exact ⟨m, rfl, hw⟩

theorem opens_bool {t : TypeId} (ht : P.underlying t = some .bool) : Opens P t Kd.bool (fun _ => True) := by
  intro H enc W n cs x h
  obtain ⟨m, rfl, _⟩ := DataW.trod_bool ht h
  exact ⟨m, rfl, trivial⟩

theorem opens_string {t : TypeId} (ht : P.underlying t = some .string) : Opens P t Kd.string (fun s => s.size ≤ 9223372036854775807) := by
  intro H enc W n cs x h
  obtain ⟨s, rfl, _, hs⟩ := DataW.trod_string ht h
  exact ⟨s, rfl, by simpa [maxLen] using hs⟩

theorem add_add (ad : Addr) (i j : Nat) : (ad.add i).add j = ad.add (i + j) := by
  unfold Addr.add
  by_cases h1 : i = 0 <;> by_cases h2 : j = 0 <;> simp [h1, h2, Nat.add_assoc]

/-- A choice at each place of a list's length. -/
theorem choose_list {α : Type} {Q : Nat → α → Prop} : ∀ (n : Nat), (∀ i, i < n → ∃ a, Q i a) → ∃ l : List α, l.length = n ∧ ∀ i a, l[i]? = some a → Q i a
  | 0, _ => ⟨[], rfl, fun i a h => by simp at h⟩
  | n + 1, h => by
    obtain ⟨l, hl, hq⟩ := choose_list n (fun i hi => h i (by omega))
    obtain ⟨a, ha⟩ := h n (by omega)
    refine ⟨l ++ [a], by simp [hl], fun i b hb => ?_⟩
    by_cases hi : i < n
    · rw [List.getElem?_append_left (by omega)] at hb
      exact hq i b hb
    · rw [List.getElem?_append_right (by omega), hl] at hb
      by_cases h0 : i = n
      · subst h0
        simp at hb
        subst hb
        exact ha
      · have : 0 < i - n := by omega
        obtain ⟨m, hm⟩ : ∃ m, i - n = m + 1 := ⟨i - n - 1, by omega⟩
        rw [hm] at hb
        simp at hb

theorem opens_slice {α : Type} {t e : TypeId} {k : Kd α} {B : α → Prop} (ht : P.underlying t = some (.slice e)) (hk : Opens P e k B) (hs : P.cellsOf e = k.sz) (eN : Nat) :
    Opens P t (Kd.slice eN k) (fun l => l.length ≤ 9223372036854775807 ∧ ∀ x ∈ l, B x) := by
  intro H enc W n cs x h
  rcases DataW.trod_slice ht h with ⟨rfl, _⟩ | ⟨a, len, cap, elems, rest, m, _, rfl, _, _, hlc, hcm, hel, hat, _⟩
  · refine ⟨[], ⟨none, 0, rfl, Nat.le_refl _, rfl, by simp, fun h0 => absurd h0 (by simp)⟩, by simp, fun y hy => by simp at hy⟩
  · have one : ∀ i, i < len → ∃ p : α × List Value, k.K W p.1 p.2 ∧ B p.1 ∧ W.cells? 0 (a.add (i * P.cellsOf e)) (P.cellsOf e) = some p.2 := by
      intro i hi
      have h1 := hat i hi
      rw [List.getElem?_eq_getElem (by omega)] at h1
      obtain ⟨c, hc, htr⟩ := Option.bind_eq_some_iff.1 h1
      obtain ⟨b, hb, hB⟩ := hk H enc W m c _ htr
      exact ⟨(b, c), hb, hB, hc⟩
    obtain ⟨l, hl, hq⟩ := choose_list len one
    unfold maxLen at hcm
    refine ⟨l.map (·.1), ⟨some a, cap, by simp [hl], by simpa [hl] using hlc, rfl, by simp [hl]; omega, fun _ => ⟨a, rfl, fun j p hp => ?_⟩⟩, by simp [hl]; omega, fun y hy => ?_⟩
    · rw [List.getElem?_map] at hp
      obtain ⟨q, hq1, rfl⟩ := Option.map_eq_some_iff.1 hp
      obtain ⟨hK, _, hc⟩ := hq j q hq1
      refine ⟨q.2, k.K_len hK, hK, fun i u hu => ?_⟩
      obtain ⟨_, hlen, hcell⟩ := World.cells?_some hc
      have hi : i < P.cellsOf e := by
        have := (List.getElem?_eq_some_iff.1 hu).1
        omega
      have := hcell i hi
      rw [add_add, hu, hs] at this
      exact this
    · obtain ⟨q, hq1, rfl⟩ := List.mem_map.1 hy
      obtain ⟨j, hj, rfl⟩ := List.getElem_of_mem hq1
      exact (hq j _ (List.getElem?_eq_getElem hj)).2.1

/-- The fields from place i on, the cells from off on. -/
def OpensFs {α : Type} (P : Program) (fs : List Field) (off : Nat) (k : Kd α) (B : α → Prop) : Prop :=
  ∀ (H : Type) (enc : TypeId × Value → H) (W : World) (n : Nat) (cs : List Value), cs.length = off + k.sz →
    (∀ f ∈ fs, ∃ x, DataW.trod enc P W 0 (fun _ => true) true n f.type ((cs.drop f.offset).take (P.cellsOf f.type)) = some x) → ∃ a, k.K W a (cs.drop off) ∧ B a

theorem opensFs_one {α : Type} {f : Field} {off : Nat} {k : Kd α} {B : α → Prop} (hk : Opens P f.type k B) (ho : f.offset = off) (hs : P.cellsOf f.type = k.sz) : OpensFs P [f] off k B := by
  intro H enc W n cs hl h
  obtain ⟨x, hx⟩ := h f (by simp)
  rw [ho, hs, List.take_of_length_le (by simp; omega)] at hx
  exact hk H enc W n _ x hx

theorem opensFs_cons {α β : Type} {f : Field} {fs : List Field} {off : Nat} {k : Kd α} {B : α → Prop} {k' : Kd β} {B' : β → Prop} (hk : Opens P f.type k B) (ho : f.offset = off) (hs : P.cellsOf f.type = k.sz)
    (hr : OpensFs P fs (off + k.sz) k' B') : OpensFs P (f :: fs) off (Kd.pair k k') (fun x => B x.1 ∧ B' x.2) := by
  intro H enc W n cs hl h
  obtain ⟨x, hx⟩ := h f (by simp)
  have hl' : cs.length = off + (k.sz + k'.sz) := hl
  rw [ho, hs] at hx
  obtain ⟨a, ha, hB⟩ := hk H enc W n _ x hx
  obtain ⟨b, hb, hB'⟩ := hr H enc W n cs (by omega) (fun g hg => h g (List.mem_cons_of_mem _ hg))
  refine ⟨(a, b), ⟨_, _, ?_, ha, hb⟩, hB, hB'⟩
  rw [← List.drop_drop, List.take_append_drop]

theorem opens_struct {α β : Type} {t : TypeId} {fs : Array Field} {k : Kd α} {B : α → Prop} (ht : P.underlying t = some (.struct fs)) (hk : OpensFs P fs.toList 0 k B) (hs : P.cellsOf t = k.sz)
    (f : β → α) (g : α → β) (hg : ∀ a, f (g a) = a) : Opens P t (Kd.iso k f) (fun x => B (f x)) := by
  intro H enc W n cs x h
  obtain ⟨xs, m, _, _, hlen, hxl, hat⟩ := DataW.trod_struct ht h
  obtain ⟨a, ha, hB⟩ := hk H enc W m cs (by omega) (fun fl hf => by
    obtain ⟨i, hi, rfl⟩ := List.getElem_of_mem hf
    have hi' : i < fs.size := by simpa using hi
    have := hat i fs[i] (by simp [hi'])
    rw [List.getElem?_eq_getElem (by omega)] at this
    exact ⟨_, by simpa using this⟩)
  refine ⟨g a, ?_, ?_⟩
  · show k.K W (f (g a)) cs
    rw [hg]
    simpa using ha
  · show B (f (g a))
    rw [hg]
    exact hB

theorem agg_of {t : TypeId} {fs : Array Field} {w : World} {r : Reach} {b : Nat} {v : Value} (ht : P.underlying t = some (.struct fs)) (h : Value.okWide P w r b t v) : ∃ cs, v = .agg cs := by
  unfold Value.okWide at h
  rw [ht] at h
  obtain ⟨cs, h, _⟩ := h
  exact ⟨cs, h⟩

theorem slice_of {α : Type} {t e eN : Nat} {k : Kd α} {w W : World} {r : Reach} {b : Nat} {v : Value} {l : List α} (ht : P.underlying t = some (.slice e)) (h : Value.okWide P w r b t v) (hK : (Kd.slice eN k).K W l v.cells.toList) :
    ∃ A c, v = .slice A l.length c ∧ l.length ≤ c ∧ k.C W A l.length l := by
  obtain ⟨a, n, c, rfl⟩ := WideShapes.okWide_slice ht h
  obtain ⟨A, c', he, hl, hC⟩ := hK
  simp only [Value.cells, List.cons.injEq, Value.slice.injEq, and_true] at he
  obtain ⟨rfl, rfl, rfl⟩ := he
  exact ⟨_, _, rfl, hl, hC⟩

theorem string_of {t : TypeId} {w : World} {r : Reach} {b : Nat} {v : Value} {s : ByteArray} (ht : P.underlying t = some .string) (h : Value.okWide P w r b t v) (hK : v.cells.toList = [.string s]) : v = .string s := by
  unfold Value.okWide at h
  rw [ht] at h
  simp only [Cell.okWide, ht] at h
  unfold Cell.ok at h
  rw [ht] at h
  cases v <;> simp_all [Value.cells]

/-- The arguments read behind a call that only made memory as they did before it. -/
theorem args_stay {H : Type} {enc : TypeId × Value → H} (hl : laidOutB P = true) {W W' : World} (hb : Below W.heap.size W W') :
    ∀ {ts : List TypeId} {vs : List Value} {ds : List (DataW H)} {ps : List MemPlace}, (∀ t ∈ ts, P.readableRec t = true ∧ t < P.types.size) → (∀ p ∈ ps, p.block < W.heap.size) →
      DataW.TrodAll enc P W 0 (fun _ => true) true ts vs ds ps → DataW.TrodAll enc P W' 0 (fun b => decide (b < W.heap.size)) true ts vs ds ps
  | [], [], [], _, _, _, h => h
  | t :: _, _ :: _, _ :: _, _, hT, hlt, ⟨p, q, h1, h2, e⟩ =>
    ⟨p, q, WideElems.Trod_stays hl (hT t (List.mem_cons_self ..)).1 (hT t (List.mem_cons_self ..)).2 h1 (fun x hx => hb.same (hlt x (by rw [e]; exact List.mem_append_left _ hx))) (fun x hx => by
        simpa using hlt x (by rw [e]; exact List.mem_append_left _ hx)),
      args_stay hl hb (fun t ht => hT t (List.mem_cons_of_mem _ ht)) (fun x hx => hlt x (by rw [e]; exact List.mem_append_right _ hx)) h2, e⟩
  | [], [], _ :: _, _, _, _, h => by cases h
  | [], _ :: _, _, _, _, _, h => by cases h
  | _ :: _, [], _, _, _, _, h => by cases h
  | _ :: _, _ :: _, [], _, _, _, h => by cases h
end Go.Proofs.YtdfehjfmihokpaaOpen

namespace Go.Proofs.Ytdfehjfmihokpaa.Pure.FnExactAllPieces
open Go Go.RowKit Go.Proofs.Ytdfehjfmihokpaa.PFnExactAllPieces Go.Proofs.YtdfehjfmihokpaaW.PrintWords Go.Proofs.YtdfehjfmihokpaaW.PrintLast Go.Proofs.YtdfehjfmihokpaaW.PrintMore Go.Proofs.YtdfehjfmihokpaaGeo
set_option linter.unusedVariables false
set_option linter.unusedSimpArgs false
open Go.Proofs.YtdfehjfmihokpaaMeet
theorem w1 (i : Nat) (h : i < 9223372036854775807) : wrap64 ((i : Int) + 1) = ((i + 1 : Nat) : Int) := by unfold wrap64; omega
theorem rd_at (l : List Int) (i : Nat) (h : i < l.length) : rd l (i : Int) = l[i] := by
  unfold rd
  rw [Int.toNat_natCast, List.getD_eq_getElem?_getD, List.getElem?_eq_getElem h]
  rfl
theorem how_s (a b c d e f g h : Int) : Ev (fun _ => spec_HowMeet.f a b c d e f g h) (howS a b c d e f g h) := Ev.now _
theorem before_key {x y x' y' : Int} (h : isPt x y = true) (h' : isPt x' y' = true) : beforeI x y x' y' = decide (kyI x y < kyI x' y') := by
  rw [isPt_iff] at h h'
  unfold beforeI kyI
  rw [Bool.eq_iff_iff]; simp; omega
theorem j3_i (a b c d : Int) (h : isPt a b = true) (h' : isPt c d = true) : Ev (fun k => impl_HowMeet.j3 k a b c d) (if kyI c d < kyI a b then 0 else if kyI a b = kyI c d then 1 else 3) := by
  refine Ev.step (f := fun _ => some (if kyI c d < kyI a b then 0 else if kyI a b = kyI c d then 1 else 3)) (fun k => ?_) (Ev.now _)
  simp only [impl_HowMeet.j3, impl_BeforePoint.f, before_key h' h, Option.bind_some, decide_eq_true_eq]
  have e : (a == c && b == d) = decide (kyI a b = kyI c d) := by
    rw [← ky_inj h h']
    rw [Bool.eq_iff_iff]; simp
  rw [e]
  by_cases z : kyI c d < kyI a b
  · rw [if_pos z, if_pos z]
  · rw [if_neg z, if_neg z]
    by_cases z' : kyI a b = kyI c d
    · simp [z']
    · simp [z']
theorem j2_i (e f g h a b c d : Int) (h1 : isPt g h = true) (h2 : isPt a b = true) (h3 : isPt c d = true) : Ev (fun k => impl_HowMeet.j2 k e f g h a b c d) (if mn (kyI c d) (kyI g h) < kyI a b then 0 else if kyI a b = mn (kyI c d) (kyI g h) then 1 else 3) := by
  refine Ev.step (f := fun k => if kyI g h < kyI c d then impl_HowMeet.j3 k a b g h else impl_HowMeet.j3 k a b c d) (fun k => ?_) ?_
  · simp only [impl_HowMeet.j2, impl_BeforePoint.f, before_key h1 h3, Option.bind_some, decide_eq_true_eq]
  · unfold mn
    by_cases z : kyI g h < kyI c d
    · simp only [if_pos z]; exact j3_i a b g h h2 h1
    · simp only [if_neg z]; exact j3_i a b c d h2 h3
theorem fwd_i (a b c d : Int) (h : isPt a b = true) (h' : isPt c d = true) : ∃ x y u v, impl_forward.f a b c d = some (x, y, u, v) ∧ isPt x y = true ∧ isPt u v = true ∧ kyI x y = mn (kyI a b) (kyI c d) ∧ kyI u v = mx (kyI a b) (kyI c d) := by
  unfold impl_forward.f impl_BeforePoint.f impl_TurnSegment.f
  simp only [before_key h' h, Option.bind_some, decide_eq_true_eq]
  by_cases z : kyI c d < kyI a b
  · exact ⟨c, d, a, b, by rw [if_pos z], h', h, by unfold mn; rw [if_pos z], by unfold mx; rw [if_neg (by omega)]⟩
  · exact ⟨a, b, c, d, by rw [if_neg z], h, h', by unfold mn; rw [if_neg z], by unfold mx; split <;> omega⟩
theorem how_i (a b c d e f g h : Int) : Ev (fun k => impl_HowMeet.f k a b c d e f g h) (howS a b c d e f g h) := by
  rw [← how_eq]
  unfold impl_HowMeet.f howP impl_IsSegment.f
  simp only [Option.bind_some]
  have dead : Ev (fun k => impl_HowMeet.j0 k true a b c d e f g h) 0 := Ev.step (f := fun _ => some 0) (fun k => by simp [impl_HowMeet.j0]) (Ev.now _)
  cases h1 : isSeg a b c d
  · simp only [Bool.false_eq_true, if_false, true_or, if_true]; exact dead
  · cases h2 : isSeg e f g h
    · simp only [if_true, Bool.not_false, or_true]; exact dead
    · simp only [if_true, Bool.not_true, Bool.true_eq_false, or_self, if_false]
      obtain ⟨ha, hc, _⟩ := isSeg_iff.mp h1
      obtain ⟨he, hg, _⟩ := isSeg_iff.mp h2
      have j4t : Ev (fun k => impl_HowMeet.j4 k true a b c d e f g h) 2 := Ev.step (f := fun _ => some 2) (fun k => by simp [impl_HowMeet.j4]) (Ev.now _)
      have j4f : Ev (fun k => impl_HowMeet.j4 k false a b c d e f g h) (if isOnI a b c d e f || isOnI a b c d g h || isOnI e f g h a b || isOnI e f g h c d then 1 else 0) := by
        refine Ev.step (f := fun _ => some (if isOnI a b c d e f || isOnI a b c d g h || isOnI e f g h a b || isOnI e f g h c d then 1 else 0)) (fun k => ?_) (Ev.now _)
        simp only [impl_HowMeet.j4, impl_IsOn.f, Option.bind_some, Bool.false_eq_true, if_false]
        cases isOnI a b c d e f <;> cases isOnI a b c d g h <;> cases isOnI e f g h a b <;> cases isOnI e f g h c d <;> rfl
      by_cases hcol : sideI a b c d e f = 0 ∧ sideI a b c d g h = 0
      · rw [if_pos hcol]
        obtain ⟨x, y, u, v, f1, p1, p2, k1, k2⟩ := fwd_i a b c d ha hc
        obtain ⟨x', y', u', v', f2, p1', p2', k1', k2'⟩ := fwd_i e f g h he hg
        refine Ev.step (f := fun k => impl_HowMeet.j1 k (sideI a b c d e f) (sideI a b c d g h) true a b c d e f g h) (fun k => ?_) ?_
        · simp [impl_HowMeet.j0, impl_SideOf.f, hcol.1, hcol.2]
        · refine Ev.step (f := fun k => if kyI x y < kyI x' y' then impl_HowMeet.j2 k x' y' u' v' x' y' u v else impl_HowMeet.j2 k x' y' u' v' x y u v) (fun k => ?_) ?_
          · simp only [impl_HowMeet.j1, f1, f2, impl_BeforePoint.f, Option.bind_some, before_key p1 p1', decide_eq_true_eq, if_true]
          · rw [← k1, ← k2, ← k1', ← k2']
            by_cases z : kyI x y < kyI x' y'
            · simp only [if_pos z]
              have e : mx (kyI x y) (kyI x' y') = kyI x' y' := by unfold mx; rw [if_pos z]
              rw [e]
              exact j2_i x' y' u' v' x' y' u v p2' p1' p2
            · simp only [if_neg z]
              have e : mx (kyI x y) (kyI x' y') = kyI x y := by unfold mx; rw [if_neg z]
              rw [e]
              exact j2_i x' y' u' v' x y u v p2' p1 p2
      · rw [if_neg hcol]
        refine Ev.step (f := fun k => impl_HowMeet.j1 k (sideI a b c d e f) (sideI a b c d g h) false a b c d e f g h) (fun k => ?_) ?_
        · simp only [impl_HowMeet.j0, impl_SideOf.f, Option.bind_some, Bool.false_eq_true, if_false]
          by_cases z : sideI a b c d e f = 0
          · have z' : ¬ sideI a b c d g h = 0 := fun q => hcol ⟨z, q⟩
            have z'' : (sideI a b c d g h == 0) = false := by simp [z']
            rw [if_pos z, z'']
          · rw [if_neg z]
        · have w1 := wrap_sd _ _ (sd_bd a b c d e f) (sd_bd a b c d g h)
          have w2 := wrap_sd _ _ (sd_bd e f g h a b) (sd_bd e f g h c d)
          by_cases zu : sideI a b c d e f * sideI a b c d g h < 0
          · by_cases zv : sideI e f g h a b * sideI e f g h c d < 0
            · rw [if_pos ⟨zu, zv⟩]
              refine Ev.step (fun k => ?_) j4t
              simp [impl_HowMeet.j1, impl_SideOf.f, w1, w2, zu, zv]
            · rw [if_neg (fun q => zv q.2)]
              refine Ev.step (fun k => ?_) j4f
              simp [impl_HowMeet.j1, impl_SideOf.f, w1, w2, zu, zv]
          · rw [if_neg (fun q => zu q.1)]
            refine Ev.step (fun k => ?_) j4f
            simp [impl_HowMeet.j1, impl_SideOf.f, w1, zu]
/-- A line's points, one behind the other: each a point, none like the one ahead of it. -/
def chkL : Option S82 → List S82 → Bool
  | _, [] => true
  | o, p :: r => isPt p.f0 p.f1 && ((match o with | none => true | some q => !eqP q p) && chkL (some p) r)
theorem chkL_cons (o : Option S82) (p : S82) (r : List S82) : chkL o (p :: r) = (isPt p.f0 p.f1 && ((match o with | none => true | some q => !eqP q p) && chkL (some p) r)) := by cases o <;> rfl
def lnB (l : List S82) : Bool := inR (l.length : Int) 2 10 && chkL none l
def prevL (l : List S82) (i : Nat) : Option S82 := if i = 0 then none else some (l.getD (i - 1) z82)
theorem prevL_succ (l : List S82) (i : Nat) (h : i < l.length) : prevL l (i + 1) = some l[i] := by
  unfold prevL
  rw [if_neg (by omega), Nat.add_sub_cancel, List.getD_eq_getElem?_getD, List.getElem?_eq_getElem h]; rfl
theorem w1m (i : Nat) (h : 0 < i) (h' : i < 9223372036854775807) : wrap64 ((i : Int) - 1) = ((i - 1 : Nat) : Int) := by unfold wrap64; omega
theorem isLine_sl (l : List S82) (hl : l.length < 9223372036854775807) (d : Nat) : ∀ i : Nat, i + d = l.length → Ev (fun k => spec_IsLine.l0 k l (i : Int)) (chkL (prevL l i) (l.drop i) && inR (l.length : Int) 2 10) := by
  induction d with
  | zero =>
    intro i hi
    rw [List.drop_of_length_le (by omega)]
    refine Ev.step (f := fun _ => some _) (fun k => ?_) (Ev.now _)
    simp only [spec_IsLine.l0, spec_l1In.f]
    rw [if_neg (by omega)]
    simp [chkL]
  | succ d ih =>
    intro i hi
    have h1 : i < l.length := by omega
    have hd := List.drop_eq_getElem_cons h1
    rw [hd, chkL_cons]
    cases hp : isPt l[i].f0 l[i].f1
    · refine Ev.step (f := fun _ => some false) (fun k => ?_) (Ev.now _)
      simp only [spec_IsLine.l0, spec_IsPoint.f, Option.bind_some]
      rw [if_pos (by omega), if_pos (by omega), rdPt l i h1, hp]
      simp
    · have ih' := ih (i + 1) (by omega)
      rw [prevL_succ l i h1] at ih'
      by_cases h0 : i = 0
      · subst h0
        refine Ev.step (fun k => ?_) ih'
        simp only [spec_IsLine.l0, spec_IsPoint.f, Option.bind_some]
        rw [if_pos (by omega), if_pos (by omega), rdPt l 0 h1, hp, if_pos rfl, if_neg (by omega), w1' 0 (by omega)]
      · have hi1 : i - 1 < l.length := by omega
        have eP : prevL l i = some l[i - 1] := by unfold prevL; rw [if_neg h0, List.getD_eq_getElem?_getD, List.getElem?_eq_getElem hi1]; rfl
        rw [eP]
        dsimp only
        have eq : (((l[i - 1]).f0) == (l[i].f0) && (((l[i - 1]).f1) == (l[i].f1))) = eqP l[i - 1] l[i] := by
          unfold eqP; rw [Bool.eq_iff_iff]; simp
        cases he : eqP l[i - 1] l[i]
        · refine Ev.step (fun k => ?_) ih'
          simp only [spec_IsLine.l0, spec_IsPoint.f, Option.bind_some]
          rw [if_pos (by omega), if_pos (by omega), rdPt l i h1, hp, if_pos rfl, if_pos (by omega), w1m i (by omega) (by omega), if_pos (by omega), if_pos (by omega), rdPt l (i - 1) hi1, eq, he, w1' i (by omega)]
          simp
        · refine Ev.step (f := fun _ => some false) (fun k => ?_) (Ev.now _)
          simp only [spec_IsLine.l0, spec_IsPoint.f, Option.bind_some]
          rw [if_pos (by omega), if_pos (by omega), rdPt l i h1, hp, if_pos rfl, if_pos (by omega), w1m i (by omega) (by omega), if_pos (by omega), if_pos (by omega), rdPt l (i - 1) hi1, eq, he]
          simp
theorem isLine_s (l : List S82) (hl : l.length < 9223372036854775807) : Ev (fun k => spec_IsLine.f k l) (lnB l) := by
  unfold spec_IsLine.f lnB
  rw [Bool.and_comm]
  exact isLine_sl l hl l.length 0 (by omega)
theorem isLine_il (l : List S82) (hl : l.length < 9223372036854775807) (d : Nat) : ∀ i : Nat, i + d = l.length → Ev (fun k => impl_IsLine.l0 k l l (l.length : Int) (i : Int)) (chkL (prevL l i) (l.drop i)) := by
  induction d with
  | zero =>
    intro i hi
    rw [List.drop_of_length_le (by omega)]
    refine Ev.step (f := fun _ => some _) (fun k => ?_) (Ev.now _)
    simp only [impl_IsLine.l0]
    rw [if_neg (by omega)]
    simp [chkL]
  | succ d ih =>
    intro i hi
    have h1 : i < l.length := by omega
    have hd := List.drop_eq_getElem_cons h1
    rw [hd, chkL_cons]
    cases hp : isPt l[i].f0 l[i].f1
    · refine Ev.step (f := fun _ => some false) (fun k => ?_) (Ev.now _)
      simp only [impl_IsLine.l0, impl_IsPoint.f, Option.bind_some]
      rw [if_pos (by omega), if_pos (by omega), if_pos (by omega), rdPt l i h1, hp]
      simp
    · have ih' := ih (i + 1) (by omega)
      rw [prevL_succ l i h1] at ih'
      by_cases h0 : i = 0
      · subst h0
        refine Ev.step (fun k => ?_) ih'
        simp only [impl_IsLine.l0, impl_IsPoint.f, Option.bind_some]
        rw [if_pos (by omega), if_pos (by omega), if_pos (by omega), rdPt l 0 h1, hp, if_pos rfl, if_neg (by omega), w1' 0 (by omega)]
      · have hi1 : i - 1 < l.length := by omega
        have eP : prevL l i = some l[i - 1] := by unfold prevL; rw [if_neg h0, List.getD_eq_getElem?_getD, List.getElem?_eq_getElem hi1]; rfl
        rw [eP]
        dsimp only
        have eq : (((l[i]).f0) == (l[i - 1].f0) && (((l[i]).f1) == (l[i - 1].f1))) = eqP l[i - 1] l[i] := by
          unfold eqP; rw [Bool.eq_iff_iff]; simp; omega
        cases he : eqP l[i - 1] l[i]
        · refine Ev.step (fun k => ?_) ih'
          simp only [impl_IsLine.l0, impl_IsPoint.f, Option.bind_some]
          rw [if_pos (by omega), if_pos (by omega), if_pos (by omega), rdPt l i h1, hp, if_pos rfl, if_pos (by omega), w1m i (by omega) (by omega), if_pos (by omega), if_pos (by omega), rdPt l (i - 1) hi1, eq, he, w1' i (by omega)]
          simp
        · refine Ev.step (f := fun _ => some false) (fun k => ?_) (Ev.now _)
          simp only [impl_IsLine.l0, impl_IsPoint.f, Option.bind_some]
          rw [if_pos (by omega), if_pos (by omega), if_pos (by omega), rdPt l i h1, hp, if_pos rfl, if_pos (by omega), w1m i (by omega) (by omega), if_pos (by omega), if_pos (by omega), rdPt l (i - 1) hi1, eq, he]
          simp
theorem isLine_i (l : List S82) (hl : l.length < 9223372036854775807) : Ev (fun k => impl_IsLine.f k l) (lnB l) := by
  unfold impl_IsLine.f lnB
  have dead : Ev (fun k => impl_IsLine.j0 k l true) false := Ev.step (f := fun _ => some false) (fun k => by simp [impl_IsLine.j0]) (Ev.now _)
  by_cases h2 : (l.length : Int) < 2
  · simp only [if_pos h2]
    have : inR (l.length : Int) 2 10 = false := by unfold inR; simp; omega
    rw [this]; exact dead
  · simp only [if_neg h2]
    by_cases h10 : (l.length : Int) > 10
    · have : inR (l.length : Int) 2 10 = false := by unfold inR; simp; omega
      rw [this, decide_eq_true h10]; exact dead
    · have : inR (l.length : Int) 2 10 = true := by unfold inR; simp; omega
      rw [this, decide_eq_false h10]
      exact Ev.step (fun k => by simp [impl_IsLine.j0]) (isLine_il l hl l.length 0 (by omega))
theorem rdSg (l : List S85) (i : Nat) (h : i < l.length) : rd_T85 l (i : Int) = l.getD i z85 := by
  unfold rd_T85
  rw [Int.toNat_natCast]
def howL (p q : S85) : Int := howS p.f0.f0 p.f0.f1 p.f1.f0 p.f1.f1 q.f0.f0 q.f0.f1 q.f1.f0 q.f1.f1
def segL (p : S85) : Bool := isSeg p.f0.f0 p.f0.f1 p.f1.f0 p.f1.f1
def wantR (n i k : Nat) : Int := if k + 1 = i ∨ (k = 0 ∧ i + 1 = n) then 1 else 0
def inRow (s : List S85) (i : Nat) (k : Nat) : Bool := decide (howL (s.getD i z85) (s.getD k z85) = wantR s.length i k)
def ringS (s : List S85) (i d : Nat) : Bool := (List.range' i d).all fun i => segL (s.getD i z85) && (List.range' 0 i).all (inRow s i)
/-- The segments around. -/
def arR (l : List S82) : List S85 := (List.range l.length).map fun i => (⟨l.getD i z82, l.getD ((i + 1) % l.length) z82⟩ : S85)
def rgB (l : List S82) : Bool := inR (l.length : Int) 3 10 && ringS (arR l) 0 l.length
theorem arR_len (l : List S82) : (arR l).length = l.length := by simp [arR]
theorem arR_take (l : List S82) (i : Nat) (h : i < l.length) : (arR l).take (i + 1) = (arR l).take i ++ [(⟨l.getD i z82, l.getD ((i + 1) % l.length) z82⟩ : S85)] := by
  rw [List.take_succ_eq_append_getElem (by rw [arR_len]; exact h)]
  simp [arR]
theorem tmod_nat (a n : Nat) : Int.tmod (a : Int) (n : Int) = ((a % n : Nat) : Int) := by rw [Int.ofNat_tmod]
theorem rdPd (l : List S82) (i : Nat) : rd_T82 l (i : Int) = l.getD i z82 := by
  unfold rd_T82
  rw [Int.toNat_natCast]
theorem around_sl (l : List S82) (hl : l.length < 1000) (d : Nat) : ∀ i : Nat, i + d = l.length → Ev (fun k => spec_l7Segments.l0 k l ((arR l).take i) (i : Int)) (arR l) := by
  induction d with
  | zero =>
    intro i hi
    rw [List.take_of_length_le (by rw [arR_len]; omega)]
    refine Ev.step (f := fun _ => some _) (fun k => ?_) (Ev.now _)
    simp only [spec_l7Segments.l0]
    rw [if_neg (by omega)]
  | succ d ih =>
    intro i hi
    have h1 : i < l.length := by omega
    have hm : (i + 1) % l.length < l.length := Nat.mod_lt _ (by omega)
    refine Ev.step (fun k => ?_) (ih (i + 1) (by omega))
    have hlen : ((arR l).take i).length < 4398046511104 := by rw [List.length_take, arR_len]; omega
    simp only [spec_l7Segments.l0]
    rw [if_pos (by omega), if_pos (by omega), if_neg (by omega), w1' i (by omega), tmod_nat, if_pos (by omega), if_pos (by omega), if_pos hlen, rdPd, rdPd, arR_take l i h1]
theorem around_s (l : List S82) (hl : l.length < 1000) : Ev (fun k => spec_l7Segments.f k l) (arR l) := by
  unfold spec_l7Segments.f
  exact around_sl l hl l.length 0 (by omega)
theorem around_il (l : List S82) (hl : l.length < 1000) (d : Nat) : ∀ i : Nat, i + d = l.length → Ev (fun k => impl_around.l0 k l ((arR l).take i) l (l.length : Int) (i : Int)) (arR l) := by
  induction d with
  | zero =>
    intro i hi
    rw [List.take_of_length_le (by rw [arR_len]; omega)]
    refine Ev.step (f := fun _ => some _) (fun k => ?_) (Ev.now _)
    simp only [impl_around.l0]
    rw [if_neg (by omega)]
  | succ d ih =>
    intro i hi
    have h1 : i < l.length := by omega
    have hm : (i + 1) % l.length < l.length := Nat.mod_lt _ (by omega)
    refine Ev.step (fun k => ?_) (ih (i + 1) (by omega))
    have hlen : ((arR l).take i).length < 4398046511104 := by rw [List.length_take, arR_len]; omega
    simp only [impl_around.l0]
    rw [if_pos (by omega), if_pos (by omega), if_pos (by omega), if_neg (by omega), w1' i (by omega), tmod_nat, if_pos (by omega), if_pos (by omega), if_pos hlen, rdPd, rdPd, arR_take l i h1]
theorem around_i (l : List S82) (hl : l.length < 1000) : Ev (fun k => impl_around.f k l) (arR l) := by
  unfold impl_around.f
  exact around_il l hl l.length 0 (by omega)
theorem ring_s1 (s : List S85) (hs : s.length < 1000) (i : Nat) (hi : i < s.length) (rest : Bool) (hr : Ev (fun k => spec_IsRing.l0 k s ((i + 1 : Nat) : Int)) rest) (d : Nat) :
    ∀ k : Nat, k + d = i → Ev (fun n => spec_IsRing.l1 n s (i : Int) (k : Int)) ((List.range' k d).all (inRow s i) && rest) := by
  induction d with
  | zero =>
    intro k hk
    refine Ev.step (fun n => ?_) hr
    simp only [spec_IsRing.l1]
    rw [if_neg (by omega), w1' i (by omega)]
  | succ d ih =>
    intro k hk
    have hk1 : k < s.length := by omega
    rw [List.range'_succ, List.all_cons]
    have e2 : Ev (fun n => (spec_HowMeet.f (s.getD i z85).f0.f0 (s.getD i z85).f0.f1 (s.getD i z85).f1.f0 (s.getD i z85).f1.f1 (s.getD k z85).f0.f0 (s.getD k z85).f0.f1 (s.getD k z85).f1.f0 (s.getD k z85).f1.f1).bind fun t => if t = wantR s.length i k then spec_IsRing.l1 n s (i : Int) ((k + 1 : Nat) : Int) else some false) (inRow s i k && (List.range' (k + 1) d).all (inRow s i) && rest) := by
      refine Ev.bind (how_s _ _ _ _ _ _ _ _) ?_
      by_cases hw : howL (s.getD i z85) (s.getD k z85) = wantR s.length i k
      · have e : inRow s i k = true := by unfold inRow; exact decide_eq_true hw
        rw [e, Bool.true_and]
        have : Ev (fun n => spec_IsRing.l1 n s (i : Int) ((k + 1 : Nat) : Int)) ((List.range' (k + 1) d).all (inRow s i) && rest) := ih (k + 1) (by omega)
        refine Ev.congr (fun n => ?_) this
        exact if_pos hw
      · have e : inRow s i k = false := by unfold inRow; exact decide_eq_false hw
        rw [e]
        refine Ev.congr (fun n => ?_) (Ev.now _)
        exact if_neg hw
    have j : ∀ b : Bool, (if b = true then (1 : Int) else 0) = wantR s.length i k → Ev (fun n => spec_IsRing.j2 n s (i : Int) (k : Int) 0 b) (inRow s i k && (List.range' (k + 1) d).all (inRow s i) && rest) := by
      intro b hb
      refine Ev.step (fun n => ?_) e2
      simp only [spec_IsRing.j2]
      rw [← hb]
      cases b
      · rw [if_neg (by simp), if_pos (by omega), if_pos (by omega), if_pos (by omega), if_pos (by omega), rdSg s i hi, rdSg s k hk1, w1' k (by omega)]; rfl
      · rw [if_pos rfl, if_pos (by omega), if_pos (by omega), if_pos (by omega), if_pos (by omega), rdSg s i hi, rdSg s k hk1, w1' k (by omega)]; rfl
    by_cases z : k + 1 = i
    · refine Ev.step (fun n => ?_) (j true (by show (1 : Int) = _; unfold wantR; rw [if_pos (.inl z)]))
      simp only [spec_IsRing.l1]
      rw [if_pos (by omega), w1' k (by omega), if_pos (by omega)]
    · by_cases z0 : k = 0
      · refine Ev.step (fun n => ?_) (j (decide (i + 1 = s.length)) (by unfold wantR; by_cases q : i + 1 = s.length <;> simp [q, z0] <;> omega))
        simp only [spec_IsRing.l1]
        rw [if_pos (by omega), w1' k (by omega), if_neg (by omega), if_pos (by omega), w1' i (by omega)]
        congr 1
        rw [Bool.eq_iff_iff]; simp; omega
      · refine Ev.step (fun n => ?_) (j false (by show (0 : Int) = _; unfold wantR; rw [if_neg (by omega)]))
        simp only [spec_IsRing.l1]
        rw [if_pos (by omega), w1' k (by omega), if_neg (by omega), if_neg (by omega)]
theorem ring_s0 (s : List S85) (hs : s.length < 1000) (d : Nat) : ∀ i : Nat, i + d = s.length → Ev (fun n => spec_IsRing.l0 n s (i : Int)) (ringS s i d) := by
  induction d with
  | zero =>
    intro i hi
    refine Ev.step (f := fun _ => some true) (fun n => ?_) (Ev.now _)
    simp only [spec_IsRing.l0]
    rw [if_neg (by omega)]
  | succ d ih =>
    intro i hi
    have h1 : i < s.length := by omega
    unfold ringS
    rw [List.range'_succ, List.all_cons]
    cases hq : segL (s.getD i z85)
    · refine Ev.step (f := fun _ => some false) (fun n => ?_) (Ev.now _)
      simp only [spec_IsRing.l0, spec_IsSegment.f, Option.bind_some]
      rw [if_pos (by omega), if_pos (by omega), rdSg s i h1]
      unfold segL at hq
      rw [hq]; simp
    · refine Ev.step (fun n => ?_) (ring_s1 s hs i h1 _ (ih (i + 1) (by omega)) i 0 (by omega))
      simp only [spec_IsRing.l0, spec_IsSegment.f, Option.bind_some]
      rw [if_pos (by omega), if_pos (by omega), rdSg s i h1]
      unfold segL at hq
      rw [hq, if_pos rfl]; rfl
theorem isRing_s (l : List S82) (hl : l.length < 9223372036854775807) : Ev (fun k => spec_IsRing.f k l) (rgB l) := by
  unfold spec_IsRing.f rgB spec_l1In.f
  simp only [Option.bind_some]
  cases h : inR (l.length : Int) 3 10
  · simp only [Bool.false_eq_true, if_false, Bool.false_and]; exact Ev.now _
  · have hb : l.length < 1000 := by unfold inR at h; simp at h; omega
    simp only [if_true, Bool.true_and]
    refine Ev.bind (around_s l hb) ?_
    have := ring_s0 (arR l) (by rw [arR_len]; exact hb) l.length 0 (by rw [arR_len]; omega)
    exact this
theorem ring_i1 (s : List S85) (hs : s.length < 1000) (i : Nat) (hi : i < s.length) (rest : Bool) (hr : Ev (fun k => impl_IsRing.l0 k s (s.length : Int) ((i + 1 : Nat) : Int)) rest) (d : Nat) :
    ∀ k : Nat, k + d = i → Ev (fun n => impl_IsRing.l1 n s (i : Int) (s.length : Int) (i : Int) (i : Int) (k : Int)) ((List.range' k d).all (inRow s i) && rest) := by
  induction d with
  | zero =>
    intro k hk
    refine Ev.step (fun n => ?_) hr
    simp only [impl_IsRing.l1]
    rw [if_neg (by omega), w1' i (by omega)]
  | succ d ih =>
    intro k hk
    have hk1 : k < s.length := by omega
    rw [List.range'_succ, List.all_cons]
    have e2 : Ev (fun n => (impl_HowMeet.f n (s.getD i z85).f0.f0 (s.getD i z85).f0.f1 (s.getD i z85).f1.f0 (s.getD i z85).f1.f1 (s.getD k z85).f0.f0 (s.getD k z85).f0.f1 (s.getD k z85).f1.f0 (s.getD k z85).f1.f1).bind fun t => if t = wantR s.length i k then impl_IsRing.l1 n s (i : Int) (s.length : Int) (i : Int) (i : Int) ((k + 1 : Nat) : Int) else some false) (inRow s i k && (List.range' (k + 1) d).all (inRow s i) && rest) := by
      refine Ev.bind (how_i _ _ _ _ _ _ _ _) ?_
      by_cases hw : howL (s.getD i z85) (s.getD k z85) = wantR s.length i k
      · have e : inRow s i k = true := by unfold inRow; exact decide_eq_true hw
        rw [e, Bool.true_and]
        refine Ev.congr (fun n => ?_) (ih (k + 1) (by omega))
        exact if_pos hw
      · have e : inRow s i k = false := by unfold inRow; exact decide_eq_false hw
        rw [e]
        refine Ev.congr (fun n => ?_) (Ev.now _)
        exact if_neg hw
    have j : ∀ b : Bool, (if b = true then (1 : Int) else 0) = wantR s.length i k → Ev (fun n => impl_IsRing.j3 n s (i : Int) (k : Int) 0 (s.length : Int) (i : Int) (i : Int) (k : Int) b) (inRow s i k && (List.range' (k + 1) d).all (inRow s i) && rest) := by
      intro b hb
      refine Ev.step (fun n => ?_) e2
      simp only [impl_IsRing.j3]
      rw [← hb]
      cases b
      · rw [if_neg (by simp), if_pos (by omega), if_pos (by omega), if_pos (by omega), if_pos (by omega), rdSg s i hi, rdSg s k hk1, w1' k (by omega)]; rfl
      · rw [if_pos rfl, if_pos (by omega), if_pos (by omega), if_pos (by omega), if_pos (by omega), rdSg s i hi, rdSg s k hk1, w1' k (by omega)]; rfl
    have wi : wrap64 ((i : Int) - 1) = (i : Int) - 1 := by unfold wrap64; omega
    have wn : wrap64 ((s.length : Int) - 1) = (s.length : Int) - 1 := by unfold wrap64; omega
    by_cases z : k + 1 = i
    · refine Ev.step (fun n => ?_) (j true (by show (1 : Int) = _; unfold wantR; rw [if_pos (.inl z)]))
      simp only [impl_IsRing.l1]
      rw [if_pos (by omega), wi, if_pos (by omega)]
    · by_cases z0 : k = 0
      · refine Ev.step (fun n => ?_) (j (decide (i + 1 = s.length)) (by unfold wantR; by_cases q : i + 1 = s.length <;> simp [q, z0] <;> omega))
        simp only [impl_IsRing.l1]
        rw [if_pos (by omega), wi, if_neg (by omega), if_pos (by omega), wn]
        congr 1
        rw [Bool.eq_iff_iff]; simp; omega
      · refine Ev.step (fun n => ?_) (j false (by show (0 : Int) = _; unfold wantR; rw [if_neg (by omega)]))
        simp only [impl_IsRing.l1]
        rw [if_pos (by omega), wi, if_neg (by omega), if_neg (by omega)]
theorem ring_i0 (s : List S85) (hs : s.length < 1000) (d : Nat) : ∀ i : Nat, i + d = s.length → Ev (fun n => impl_IsRing.l0 n s (s.length : Int) (i : Int)) (ringS s i d) := by
  induction d with
  | zero =>
    intro i hi
    refine Ev.step (f := fun _ => some true) (fun n => ?_) (Ev.now _)
    simp only [impl_IsRing.l0]
    rw [if_neg (by omega)]
  | succ d ih =>
    intro i hi
    have h1 : i < s.length := by omega
    unfold ringS
    rw [List.range'_succ, List.all_cons]
    cases hq : segL (s.getD i z85)
    · refine Ev.step (f := fun _ => some false) (fun n => ?_) (Ev.now _)
      simp only [impl_IsRing.l0, impl_IsSegment.f, Option.bind_some]
      rw [if_pos (by omega), if_pos (by omega), if_pos (by omega), rdSg s i h1]
      unfold segL at hq
      rw [hq]; simp
    · refine Ev.step (fun n => ?_) (ring_i1 s hs i h1 _ (ih (i + 1) (by omega)) i 0 (by omega))
      simp only [impl_IsRing.l0, impl_IsSegment.f, Option.bind_some]
      rw [if_pos (by omega), if_pos (by omega), if_pos (by omega), rdSg s i h1]
      unfold segL at hq
      rw [hq, if_pos rfl]; rfl
theorem isRing_i (l : List S82) (hl : l.length < 9223372036854775807) : Ev (fun k => impl_IsRing.f k l) (rgB l) := by
  unfold impl_IsRing.f rgB
  have dead : Ev (fun k => impl_IsRing.j0 k l true) false := Ev.step (f := fun _ => some false) (fun k => by simp [impl_IsRing.j0]) (Ev.now _)
  by_cases h2 : (l.length : Int) < 3
  · simp only [if_pos h2]
    have : inR (l.length : Int) 3 10 = false := by unfold inR; simp; omega
    rw [this]; exact dead
  · simp only [if_neg h2]
    by_cases h10 : (l.length : Int) > 10
    · have : inR (l.length : Int) 3 10 = false := by unfold inR; simp; omega
      rw [this, decide_eq_true h10]; exact dead
    · have : inR (l.length : Int) 3 10 = true := by unfold inR; simp; omega
      rw [this, decide_eq_false h10]
      have hb : l.length < 1000 := by omega
      refine Ev.step (f := fun k => (impl_around.f k l).bind fun t => impl_IsRing.l0 k t (t.length : Int) 0) (fun k => by simp [impl_IsRing.j0]) (Ev.bind (around_i l hb) ?_)
      exact ring_i0 (arR l) (by rw [arR_len]; exact hb) l.length 0 (by rw [arR_len]; omega)
def nmB (s : ByteArray) : Bool := (List.range' 0 s.size).all (fun (i : Nat) => decide (97 ≤ bt s (i : Int)) && decide (bt s (i : Int) ≤ 122)) && inR (s.size : Int) 1 8
theorem nm_loop_s (s : ByteArray) (hs : s.size ≤ 9223372036854775807) (d : Nat) : ∀ i : Nat, i + d = s.size → Ev (fun k => spec_IsName.l0 k s (i : Int)) ((List.range' i d).all (fun (i : Nat) => decide (97 ≤ bt s (i : Int)) && decide (bt s (i : Int) ≤ 122)) && inR (s.size : Int) 1 8) := by
  induction d with
  | zero =>
    intro i hi
    refine Ev.step (f := fun _ => some (inR (s.size : Int) 1 8)) (fun k => ?_) (Ev.now _)
    simp only [spec_IsName.l0, spec_l1In.f]
    rw [if_neg (by omega)]; rfl
  | succ d ih =>
    intro i hi
    rw [List.range'_succ, List.all_cons]
    by_cases h1 : bt s (i : Int) < 97
    · rw [decide_eq_false (show ¬ 97 ≤ bt s (i : Int) by omega)]
      refine Ev.step (f := fun _ => some false) (fun k => ?_) (Ev.now _)
      simp only [spec_IsName.l0]
      rw [if_pos (by omega), if_pos (by omega), if_pos h1]
    · by_cases h2 : bt s (i : Int) > 122
      · rw [decide_eq_true (show 97 ≤ bt s (i : Int) by omega), decide_eq_false (show ¬ bt s (i : Int) ≤ 122 by omega)]
        refine Ev.step (f := fun _ => some false) (fun k => ?_) (Ev.now _)
        simp only [spec_IsName.l0]
        rw [if_pos (by omega), if_pos (by omega), if_neg h1, if_pos h2]
      · rw [decide_eq_true (show 97 ≤ bt s (i : Int) by omega), decide_eq_true (show bt s (i : Int) ≤ 122 by omega)]
        refine Ev.step (fun k => ?_) (ih (i + 1) (by omega))
        simp only [spec_IsName.l0]
        rw [if_pos (by omega), if_pos (by omega), if_neg h1, if_neg h2, w1' i (by omega)]
theorem nm_s (s : ByteArray) (hs : s.size ≤ 9223372036854775807) : Ev (fun k => spec_IsName.f k s) (nmB s) := nm_loop_s s hs s.size 0 (by omega)
theorem nm_loop_i (s : ByteArray) (hs : s.size ≤ 9223372036854775807) (d : Nat) : ∀ i : Nat, i + d = s.size → Ev (fun k => impl_IsName.l0 k s (s.size : Int) (i : Int)) ((List.range' i d).all (fun (i : Nat) => decide (97 ≤ bt s (i : Int)) && decide (bt s (i : Int) ≤ 122)) && inR (s.size : Int) 1 8) := by
  induction d with
  | zero =>
    intro i hi
    refine Ev.step (f := fun _ => some (inR (s.size : Int) 1 8)) (fun k => ?_) (Ev.now _)
    simp only [impl_IsName.l0, impl_InRange.f]
    rw [if_neg (by omega)]; rfl
  | succ d ih =>
    intro i hi
    rw [List.range'_succ, List.all_cons]
    by_cases h1 : bt s (i : Int) < 97
    · rw [decide_eq_false (show ¬ 97 ≤ bt s (i : Int) by omega)]
      refine Ev.step (f := fun _ => some false) (fun k => ?_) (Ev.now _)
      simp only [impl_IsName.l0]
      rw [if_pos (by omega), if_pos (by omega), if_pos (by omega), if_pos h1]
    · by_cases h2 : bt s (i : Int) > 122
      · rw [decide_eq_true (show 97 ≤ bt s (i : Int) by omega), decide_eq_false (show ¬ bt s (i : Int) ≤ 122 by omega)]
        refine Ev.step (f := fun _ => some false) (fun k => ?_) (Ev.now _)
        simp only [impl_IsName.l0]
        rw [if_pos (by omega), if_pos (by omega), if_pos (by omega), if_neg h1, if_pos h2]
      · rw [decide_eq_true (show 97 ≤ bt s (i : Int) by omega), decide_eq_true (show bt s (i : Int) ≤ 122 by omega)]
        refine Ev.step (fun k => ?_) (ih (i + 1) (by omega))
        simp only [impl_IsName.l0]
        rw [if_pos (by omega), if_pos (by omega), if_pos (by omega), if_neg h1, if_neg h2, w1' i (by omega)]
theorem nm_i (s : ByteArray) (hs : s.size ≤ 9223372036854775807) : Ev (fun k => impl_IsName.f k s) (nmB s) := nm_loop_i s hs s.size 0 (by omega)
theorem lnB_len {l : List S82} (h : lnB l = true) : 2 ≤ l.length ∧ l.length ≤ 10 := by
  unfold lnB inR at h; simp at h; omega
theorem rgB_len {l : List S82} (h : rgB l = true) : 3 ≤ l.length ∧ l.length ≤ 10 := by
  unfold rgB inR at h; simp at h; omega
/-- The segments of a line, one behind the other. -/
def sgR (l : List S82) : List S85 := (List.range (l.length - 1)).map fun i => (⟨l.getD i z82, l.getD (i + 1) z82⟩ : S85)
def sgL (l : List S82) : List S85 := if lnB l then sgR l else []
theorem sgR_len (l : List S82) : (sgR l).length = l.length - 1 := by simp [sgR]
theorem sgR_take (l : List S82) (i : Nat) (h : i + 1 < l.length) : (sgR l).take (i + 1) = (sgR l).take i ++ [(⟨l.getD i z82, l.getD (i + 1) z82⟩ : S85)] := by
  rw [List.take_succ_eq_append_getElem (by rw [sgR_len]; omega)]
  simp [sgR]
theorem seg_sl (l : List S82) (hl : lnB l = true) (d : Nat) : ∀ i : Nat, i + 1 + d = l.length → Ev (fun k => spec_SegmentsOf.l0 k l ((sgR l).take i) ((i + 1 : Nat) : Int)) (sgR l) := by
  have hb := lnB_len hl
  induction d with
  | zero =>
    intro i hi
    rw [List.take_of_length_le (by rw [sgR_len]; omega)]
    refine Ev.step (f := fun _ => some _) (fun k => ?_) (Ev.now _)
    simp only [spec_SegmentsOf.l0]
    rw [if_neg (by omega)]
  | succ d ih =>
    intro i hi
    have hlen : ((sgR l).take i).length < 4398046511104 := by rw [List.length_take, sgR_len]; omega
    have w : wrap64 (((i + 1 : Nat) : Int) - 1) = (i : Int) := by unfold wrap64; omega
    refine Ev.step (f := fun k => (spec_IsLine.f k l).bind fun t => if t = true then spec_SegmentsOf.l0 k l ((sgR l).take (i + 1)) ((i + 1 + 1 : Nat) : Int) else some ((sgR l).take i)) (fun k => ?_) (Ev.bind (isLine_s l (by omega)) ?_)
    · simp only [spec_SegmentsOf.l0]
      rw [if_pos (by omega), w, if_pos (by omega), if_pos (by omega), if_pos (by omega), if_pos hlen, rdPd, rdPd, sgR_take l i (by omega), w1' (i + 1) (by omega)]
    · rw [hl]
      simp only [if_true]
      exact ih (i + 1) (by omega)
theorem seg_s (l : List S82) (hl : l.length < 9223372036854775807) : Ev (fun k => spec_SegmentsOf.f k l) (sgL l) := by
  unfold spec_SegmentsOf.f sgL
  cases h : lnB l
  · by_cases h1 : (1 : Int) < (l.length : Int)
    · refine Ev.step (f := fun k => (spec_IsLine.f k l).bind fun t => if t = true then spec_SegmentsOf.l0 (k + 1) l [] 1 else some []) (fun k => ?_) (Ev.bind (isLine_s l hl) ?_)
      · simp only [spec_SegmentsOf.l0]
        rw [if_pos h1]
        cases hh : spec_IsLine.f k l with
        | none => rfl
        | some b => cases b <;> simp [h1]
      · rw [h]; simp only [Bool.false_eq_true, if_false]; exact Ev.now _
    · refine Ev.step (f := fun _ => some []) (fun k => ?_) (Ev.now _)
      simp only [spec_SegmentsOf.l0]
      rw [if_neg h1]
  · have hb := lnB_len h
    exact seg_sl l h (l.length - 1) 0 (by omega)
theorem seg_il (l : List S82) (hl : lnB l = true) (d : Nat) : ∀ i : Nat, i + 1 + d = l.length → Ev (fun k => impl_SegmentsOf.l0 k l ((sgR l).take i) ((i + 1 : Nat) : Int)) (sgR l) := by
  have hb := lnB_len hl
  induction d with
  | zero =>
    intro i hi
    rw [List.take_of_length_le (by rw [sgR_len]; omega)]
    refine Ev.step (f := fun _ => some _) (fun k => ?_) (Ev.now _)
    simp only [impl_SegmentsOf.l0]
    rw [if_neg (by omega)]
  | succ d ih =>
    intro i hi
    have hlen : ((sgR l).take i).length < 4398046511104 := by rw [List.length_take, sgR_len]; omega
    have w : wrap64 (((i + 1 : Nat) : Int) - 1) = (i : Int) := by unfold wrap64; omega
    refine Ev.step (fun k => ?_) (ih (i + 1) (by omega))
    simp only [impl_SegmentsOf.l0]
    rw [if_pos (by omega), w, if_pos (by omega), if_pos (by omega), if_pos (by omega), if_pos hlen, rdPd, rdPd, sgR_take l i (by omega), w1' (i + 1) (by omega)]
theorem seg_i (l : List S82) (hl : l.length < 9223372036854775807) : Ev (fun k => impl_SegmentsOf.f k l) (sgL l) := by
  unfold impl_SegmentsOf.f sgL
  simp only [Option.bind_some]
  refine Ev.bind (isLine_i l hl) ?_
  cases h : lnB l
  · simp only [Bool.false_eq_true, if_false]; exact Ev.now _
  · have hb := lnB_len h
    simp only [if_true]
    exact seg_il l h (l.length - 1) 0 (by omega)
def wantS (i k : Nat) : Int := if k + 1 = i then 1 else 0
def inRow2 (s : List S85) (i : Nat) (k : Nat) : Bool := decide (howL (s.getD i z85) (s.getD k z85) = wantS i k)
def simS (s : List S85) (i d : Nat) : Bool := (List.range' i d).all fun i => (List.range' 0 i).all (inRow2 s i)
def smB (l : List S82) : Bool := lnB l && simS (sgL l) 0 (sgL l).length
theorem sim_s1 (l : List S82) (s : List S85) (hs : s.length < 1000) (i : Nat) (hi : i < s.length) (rest : Bool) (hr : Ev (fun k => spec_IsSimple.l0 k l s ((i + 1 : Nat) : Int)) rest) (d : Nat) :
    ∀ k : Nat, k + d = i → Ev (fun n => spec_IsSimple.l1 n l s (i : Int) (k : Int)) ((List.range' k d).all (inRow2 s i) && rest) := by
  induction d with
  | zero =>
    intro k hk
    refine Ev.step (fun n => ?_) hr
    simp only [spec_IsSimple.l1]
    rw [if_neg (by omega), w1' i (by omega)]
  | succ d ih =>
    intro k hk
    have hk1 : k < s.length := by omega
    rw [List.range'_succ, List.all_cons]
    have e2 : Ev (fun n => (spec_HowMeet.f (s.getD i z85).f0.f0 (s.getD i z85).f0.f1 (s.getD i z85).f1.f0 (s.getD i z85).f1.f1 (s.getD k z85).f0.f0 (s.getD k z85).f0.f1 (s.getD k z85).f1.f0 (s.getD k z85).f1.f1).bind fun t => if t = wantS i k then spec_IsSimple.l1 n l s (i : Int) ((k + 1 : Nat) : Int) else some false) (inRow2 s i k && (List.range' (k + 1) d).all (inRow2 s i) && rest) := by
      refine Ev.bind (how_s _ _ _ _ _ _ _ _) ?_
      by_cases hw : howL (s.getD i z85) (s.getD k z85) = wantS i k
      · have e : inRow2 s i k = true := by unfold inRow2; exact decide_eq_true hw
        rw [e, Bool.true_and]
        refine Ev.congr (fun n => ?_) (ih (k + 1) (by omega))
        exact if_pos hw
      · have e : inRow2 s i k = false := by unfold inRow2; exact decide_eq_false hw
        rw [e]
        refine Ev.congr (fun n => ?_) (Ev.now _)
        exact if_neg hw
    refine Ev.step (fun n => ?_) e2
    simp only [spec_IsSimple.l1]
    by_cases z : k + 1 = i
    · have hw : wantS i k = 1 := by unfold wantS; rw [if_pos z]
      rw [hw, if_pos (by omega), w1' k (by omega), if_pos (by omega), if_pos (by omega), if_pos (by omega), if_pos (by omega), if_pos (by omega), rdSg s i hi, rdSg s k hk1]
    · have hw : wantS i k = 0 := by unfold wantS; rw [if_neg z]
      rw [hw, if_pos (by omega), w1' k (by omega), if_neg (by omega), if_pos (by omega), if_pos (by omega), if_pos (by omega), if_pos (by omega), rdSg s i hi, rdSg s k hk1]
theorem sim_s0 (l : List S82) (hl : l.length < 9223372036854775807) (s : List S85) (hs : s.length < 1000) (d : Nat) : ∀ i : Nat, i + d = s.length → Ev (fun n => spec_IsSimple.l0 n l s (i : Int)) (simS s i d && lnB l) := by
  induction d with
  | zero =>
    intro i hi
    refine Ev.step (f := fun k => (spec_IsLine.f k l).bind fun t => some t) (fun n => ?_) (Ev.bind (isLine_s l hl) (Ev.now _))
    simp only [spec_IsSimple.l0]
    rw [if_neg (by omega)]
  | succ d ih =>
    intro i hi
    have h1 : i < s.length := by omega
    unfold simS
    rw [List.range'_succ, List.all_cons, Bool.and_assoc]
    refine Ev.step (fun n => ?_) (sim_s1 l s hs i h1 _ (ih (i + 1) (by omega)) i 0 (by omega))
    simp only [spec_IsSimple.l0]
    rw [if_pos (by omega)]; rfl
theorem sgL_len (l : List S82) : (sgL l).length < 1000 := by
  unfold sgL
  cases h : lnB l
  · simp
  · have := lnB_len h; simp [sgR_len]; omega
theorem isSimple_s (l : List S82) (hl : l.length < 9223372036854775807) : Ev (fun k => spec_IsSimple.f k l) (smB l) := by
  unfold spec_IsSimple.f smB
  refine Ev.bind (seg_s l hl) ?_
  rw [Bool.and_comm]
  exact sim_s0 l hl (sgL l) (sgL_len l) (sgL l).length 0 (by omega)
theorem sim_i1 (s : List S85) (hs : s.length < 1000) (i : Nat) (hi : i < s.length) (rest : Bool) (hr : Ev (fun k => impl_IsSimple.l0 k s (s.length : Int) ((i + 1 : Nat) : Int)) rest) (d : Nat) :
    ∀ k : Nat, k + d = i → Ev (fun n => impl_IsSimple.l1 n s (i : Int) (s.length : Int) (i : Int) (i : Int) (k : Int)) ((List.range' k d).all (inRow2 s i) && rest) := by
  induction d with
  | zero =>
    intro k hk
    refine Ev.step (fun n => ?_) hr
    simp only [impl_IsSimple.l1]
    rw [if_neg (by omega), w1' i (by omega)]
  | succ d ih =>
    intro k hk
    have hk1 : k < s.length := by omega
    rw [List.range'_succ, List.all_cons]
    have e2 : Ev (fun n => (impl_HowMeet.f n (s.getD i z85).f0.f0 (s.getD i z85).f0.f1 (s.getD i z85).f1.f0 (s.getD i z85).f1.f1 (s.getD k z85).f0.f0 (s.getD k z85).f0.f1 (s.getD k z85).f1.f0 (s.getD k z85).f1.f1).bind fun t => if t = wantS i k then impl_IsSimple.l1 n s (i : Int) (s.length : Int) (i : Int) (i : Int) ((k + 1 : Nat) : Int) else some false) (inRow2 s i k && (List.range' (k + 1) d).all (inRow2 s i) && rest) := by
      refine Ev.bind (how_i _ _ _ _ _ _ _ _) ?_
      by_cases hw : howL (s.getD i z85) (s.getD k z85) = wantS i k
      · have e : inRow2 s i k = true := by unfold inRow2; exact decide_eq_true hw
        rw [e, Bool.true_and]
        refine Ev.congr (fun n => ?_) (ih (k + 1) (by omega))
        exact if_pos hw
      · have e : inRow2 s i k = false := by unfold inRow2; exact decide_eq_false hw
        rw [e]
        refine Ev.congr (fun n => ?_) (Ev.now _)
        exact if_neg hw
    have wi : wrap64 ((i : Int) - 1) = (i : Int) - 1 := by unfold wrap64; omega
    refine Ev.step (fun n => ?_) e2
    simp only [impl_IsSimple.l1]
    by_cases z : k + 1 = i
    · have hw : wantS i k = 1 := by unfold wantS; rw [if_pos z]
      rw [hw, if_pos (by omega), wi, if_pos (by omega), if_pos (by omega), if_pos (by omega), if_pos (by omega), if_pos (by omega), rdSg s i hi, rdSg s k hk1, w1' k (by omega)]
    · have hw : wantS i k = 0 := by unfold wantS; rw [if_neg z]
      rw [hw, if_pos (by omega), wi, if_neg (by omega), if_pos (by omega), if_pos (by omega), if_pos (by omega), if_pos (by omega), rdSg s i hi, rdSg s k hk1, w1' k (by omega)]
theorem sim_i0 (s : List S85) (hs : s.length < 1000) (d : Nat) : ∀ i : Nat, i + d = s.length → Ev (fun n => impl_IsSimple.l0 n s (s.length : Int) (i : Int)) (simS s i d) := by
  induction d with
  | zero =>
    intro i hi
    refine Ev.step (f := fun _ => some true) (fun n => ?_) (Ev.now _)
    simp only [impl_IsSimple.l0]
    rw [if_neg (by omega)]
  | succ d ih =>
    intro i hi
    have h1 : i < s.length := by omega
    unfold simS
    rw [List.range'_succ, List.all_cons]
    refine Ev.step (fun n => ?_) (sim_i1 s hs i h1 _ (ih (i + 1) (by omega)) i 0 (by omega))
    simp only [impl_IsSimple.l0]
    rw [if_pos (by omega)]; rfl
theorem isSimple_i (l : List S82) (hl : l.length < 9223372036854775807) : Ev (fun k => impl_IsSimple.f k l) (smB l) := by
  unfold impl_IsSimple.f smB
  refine Ev.bind (isLine_i l hl) ?_
  cases h : lnB l
  · simp only [Bool.false_eq_true, if_false, Bool.false_and]; exact Ev.now _
  · simp only [if_true, Bool.true_and]
    refine Ev.bind (seg_i l hl) ?_
    exact sim_i0 (sgL l) (sgL_len l) (sgL l).length 0 (by omega)
def kdB (kd : Int) (l : List S82) : Bool := if kd = 1 then decide (l.length = 1) && isPt (l.getD 0 z82).f0 (l.getD 0 z82).f1 else if kd = 2 then smB l else if kd = 3 then rgB l else false
def ftB (a b c : Int) (s : ByteArray) (l : List S82) : Bool := inR a 1 99 && (inR c 0 9 && ((decide (s.toList = ([] : List UInt8)) || nmB s) && kdB b l))
theorem rdP0 (l : List S82) : rd_T82 l 0 = l.getD 0 z82 := rfl
theorem ft_js (a b c : Int) (s : ByteArray) (l : List S82) (hl : l.length < 9223372036854775807) (q : Bool) : Ev (fun k => spec_IsFeature.j0 k q a b c s l) (!q && kdB b l) := by
  cases q
  · unfold kdB
    by_cases h1 : b = 1
    · refine Ev.step (f := fun _ => some (decide (l.length = 1) && isPt (l.getD 0 z82).f0 (l.getD 0 z82).f1)) (fun k => ?_) (by simp only [if_pos h1]; exact Ev.now _)
      simp only [spec_IsFeature.j0, Bool.false_eq_true, if_false, if_pos h1, spec_IsPoint.f, Option.bind_some, rdP0]
      by_cases h : (l.length : Int) = 1
      · rw [if_pos h, if_pos (by omega), decide_eq_true (show l.length = 1 by omega)]; rfl
      · rw [if_neg h, decide_eq_false (show ¬ l.length = 1 by omega)]; rfl
    · by_cases h2 : b = 2
      · simp only [if_neg h1, if_pos h2]
        refine Ev.step (f := fun k => (spec_IsSimple.f k l).bind fun t => some t) (fun k => ?_) (Ev.bind (isSimple_s l hl) (Ev.now _))
        simp only [spec_IsFeature.j0, Bool.false_eq_true, if_false, if_neg h1, if_pos h2]
      · by_cases h3 : b = 3
        · simp only [if_neg h1, if_neg h2, if_pos h3]
          refine Ev.step (f := fun k => (spec_IsRing.f k l).bind fun t => some t) (fun k => ?_) (Ev.bind (isRing_s l hl) (Ev.now _))
          simp only [spec_IsFeature.j0, Bool.false_eq_true, if_false, if_neg h1, if_neg h2, if_pos h3]
        · simp only [if_neg h1, if_neg h2, if_neg h3]
          refine Ev.step (f := fun _ => some false) (fun k => ?_) (Ev.now _)
          simp only [spec_IsFeature.j0, Bool.false_eq_true, if_false, if_neg h1, if_neg h2, if_neg h3]
  · refine Ev.step (f := fun _ => some false) (fun k => ?_) (Ev.now _)
    simp [spec_IsFeature.j0]
theorem ft_s (a b c : Int) (s : ByteArray) (hs : s.size ≤ 9223372036854775807) (l : List S82) (hl : l.length < 9223372036854775807) : Ev (fun k => spec_IsFeature.f k a b c s l) (ftB a b c s l) := by
  unfold spec_IsFeature.f ftB spec_l1In.f
  simp only [Option.bind_some]
  cases inR a 1 99
  · simp only [Bool.false_eq_true, if_false]; exact ft_js a b c s l hl true
  · cases inR c 0 9
    · simp only [if_true, Bool.false_eq_true, if_false]; exact ft_js a b c s l hl true
    · simp only [if_true, Bool.true_and]
      by_cases he : s.toList = ([] : List UInt8)
      · simp only [if_pos he, decide_eq_true he, Bool.true_or]; exact ft_js a b c s l hl false
      · simp only [if_neg he, decide_eq_false he, Bool.false_or]
        refine Ev.bind (nm_s s hs) ?_
        have := ft_js a b c s l hl (!nmB s)
        rw [Bool.not_not] at this
        exact this
theorem ft_ji (a b c : Int) (s : ByteArray) (l : List S82) (hl : l.length < 9223372036854775807) (q : Bool) : Ev (fun k => impl_IsFeature.j0 k q a b c s l) (!q && kdB b l) := by
  cases q
  · unfold kdB
    by_cases h1 : b = 1
    · refine Ev.step (f := fun _ => some (decide (l.length = 1) && isPt (l.getD 0 z82).f0 (l.getD 0 z82).f1)) (fun k => ?_) (by simp only [if_pos h1]; exact Ev.now _)
      simp only [impl_IsFeature.j0, Bool.false_eq_true, if_false, if_pos h1, impl_IsPoint.f, Option.bind_some, rdP0]
      by_cases h : (l.length : Int) = 1
      · rw [if_pos h, if_pos (by omega), decide_eq_true (show l.length = 1 by omega)]; rfl
      · rw [if_neg h, decide_eq_false (show ¬ l.length = 1 by omega)]; rfl
    · by_cases h2 : b = 2
      · simp only [if_neg h1, if_pos h2]
        refine Ev.step (f := fun k => (impl_IsSimple.f k l).bind fun t => some t) (fun k => ?_) (Ev.bind (isSimple_i l hl) (Ev.now _))
        simp only [impl_IsFeature.j0, Bool.false_eq_true, if_false, if_neg h1, if_pos h2]
      · by_cases h3 : b = 3
        · simp only [if_neg h1, if_neg h2, if_pos h3]
          refine Ev.step (f := fun k => (impl_IsRing.f k l).bind fun t => some t) (fun k => ?_) (Ev.bind (isRing_i l hl) (Ev.now _))
          simp only [impl_IsFeature.j0, Bool.false_eq_true, if_false, if_neg h1, if_neg h2, if_pos h3]
        · simp only [if_neg h1, if_neg h2, if_neg h3]
          refine Ev.step (f := fun _ => some false) (fun k => ?_) (Ev.now _)
          simp only [impl_IsFeature.j0, Bool.false_eq_true, if_false, if_neg h1, if_neg h2, if_neg h3]
  · refine Ev.step (f := fun _ => some false) (fun k => ?_) (Ev.now _)
    simp [impl_IsFeature.j0]
theorem ft_i (a b c : Int) (s : ByteArray) (hs : s.size ≤ 9223372036854775807) (l : List S82) (hl : l.length < 9223372036854775807) : Ev (fun k => impl_IsFeature.f k a b c s l) (ftB a b c s l) := by
  unfold impl_IsFeature.f ftB impl_InRange.f
  simp only [Option.bind_some]
  cases inR a 1 99
  · simp only [Bool.false_eq_true, if_false]; exact ft_ji a b c s l hl true
  · cases inR c 0 9
    · simp only [if_true, Bool.false_eq_true, if_false]; exact ft_ji a b c s l hl true
    · simp only [if_true, Bool.true_and]
      by_cases he : s.toList = ([] : List UInt8)
      · simp only [if_pos he, decide_eq_true he, Bool.true_or]; exact ft_ji a b c s l hl false
      · simp only [if_neg he, decide_eq_false he, Bool.false_or]
        refine Ev.bind (nm_i s hs) ?_
        have := ft_ji a b c s l hl (!nmB s)
        rw [Bool.not_not] at this
        exact this
def prB (a b c : Int) (s : ByteArray) (l : List S82) : List S85 := if ftB a b c s l then (if b = 2 then sgL l else if b = 3 then (if rgB l then arR l else []) else []) else []
theorem pr_s (a b c : Int) (s : ByteArray) (hs : s.size ≤ 9223372036854775807) (l : List S82) (hl : l.length < 9223372036854775807) : Ev (fun k => spec_PartsOf.f k a b c s l) (prB a b c s l) := by
  unfold spec_PartsOf.f prB
  refine Ev.bind (ft_s a b c s hs l hl) ?_
  cases ftB a b c s l
  · simp only [Bool.false_eq_true, if_false]; exact Ev.now _
  · simp only [if_true]
    by_cases h2 : b = 2
    · simp only [if_pos h2]; exact Ev.bind (seg_s l hl) (Ev.now _)
    · by_cases h3 : b = 3
      · simp only [if_neg h2, if_pos h3]
        refine Ev.bind (a := if rgB l then arR l else []) ?_ (Ev.now _)
        unfold spec_RingSegments.f
        refine Ev.bind (isRing_s l hl) ?_
        cases h : rgB l
        · simp only [Bool.false_eq_true, if_false]; exact Ev.now _
        · simp only [if_true]
          have := rgB_len h
          exact Ev.bind (around_s l (by omega)) (Ev.now _)
      · simp only [if_neg h2, if_neg h3]; exact Ev.now _
theorem pr_i (a b c : Int) (s : ByteArray) (hs : s.size ≤ 9223372036854775807) (l : List S82) (hl : l.length < 9223372036854775807) : Ev (fun k => impl_PartsOf.f k a b c s l) (prB a b c s l) := by
  unfold impl_PartsOf.f prB
  refine Ev.bind (ft_i a b c s hs l hl) ?_
  cases ftB a b c s l
  · simp only [Bool.false_eq_true, if_false]; exact Ev.now _
  · simp only [if_true]
    by_cases h2 : b = 2
    · simp only [if_pos h2]; exact Ev.bind (seg_i l hl) (Ev.now _)
    · by_cases h3 : b = 3
      · simp only [if_neg h2, if_pos h3]
        refine Ev.bind (a := if rgB l then arR l else []) ?_ (Ev.now _)
        unfold impl_RingSegments.f
        refine Ev.bind (isRing_i l hl) ?_
        cases h : rgB l
        · simp only [Bool.false_eq_true, if_false]; exact Ev.now _
        · simp only [if_true]
          have := rgB_len h
          exact Ev.bind (around_i l (by omega)) (Ev.now _)
      · simp only [if_neg h2, if_neg h3]; exact Ev.now _
theorem prB_len (a b c : Int) (s : ByteArray) (l : List S82) : (prB a b c s l).length < 1000 := by
  unfold prB
  split
  · split
    · exact sgL_len l
    · split
      · cases h : rgB l
        · simp
        · have := rgB_len h; simp [arR_len]; omega
      · simp
  · simp
theorem prB_one (a c : Int) (s : ByteArray) (l : List S82) : prB a 1 c s l = [] := by
  unfold prB; split <;> rfl
theorem ft_one {a c : Int} {s : ByteArray} {l : List S82} (h : ftB a 1 c s l = true) : l.length = 1 := by
  simp only [ftB, kdB, if_true, Bool.and_eq_true, decide_eq_true_eq] at h
  exact h.2.2.2.1
theorem rdp_at (l : List S118) (i : Nat) (h : i < l.length) : rd_T118 l (i : Int) = l[i] := by
  unfold rd_T118
  rw [Int.toNat_natCast, List.getD_eq_getElem?_getD, List.getElem?_eq_getElem h]
  rfl
theorem rdP_at (l : List S82) (i : Nat) (h : i < l.length) : rd_T82 l (i : Int) = l[i] := by
  unfold rd_T82
  rw [Int.toNat_natCast, List.getD_eq_getElem?_getD, List.getElem?_eq_getElem h]
  rfl
def convP (x : S118) : S82 := ⟨x.f0, x.f1⟩
theorem toPoints_l (l : List S118) (hb : l.length < 9223372036854775807) (d : Nat) : ∀ i : Nat, i + d = l.length → Ev (fun k => laws_toPointS.l0 k l ((l.map convP).take i ++ List.replicate d z82) (i : Int)) (l.map convP) := by
  induction d with
  | zero =>
    intro i hi
    refine Ev.step (f := fun _ => some (l.map convP)) (fun k => ?_) (Ev.now _)
    simp only [laws_toPointS.l0]
    rw [if_neg (by omega), List.take_of_length_le (by simp; omega)]
    simp
  | succ d ih =>
    intro i hi
    have h1 : i < l.length := by omega
    refine Ev.step (fun k => ?_) (ih (i + 1) (by omega))
    simp only [laws_toPointS.l0, laws_toPoint.f, Option.bind_some]
    rw [if_pos (by omega), if_pos (by omega), if_pos (by simp; omega), rdp_at l i h1, w1 i (by omega)]
    congr 1
    have hm : i < (l.map convP).length := by simpa using h1
    rw [Int.toNat_natCast, List.set_append_right _ _ (by simp; omega), List.take_succ_eq_append_getElem hm, List.replicate_succ]
    simp only [List.length_take, List.length_map, Nat.min_eq_left (show i ≤ l.length by omega), Nat.sub_self, List.set_cons_zero, List.append_assoc, List.singleton_append, List.getElem_map, convP]
theorem toPoints (l : List S118) (hb : l.length ≤ 1048576) : Ev (fun k => laws_toPointS.f k l) (l.map convP) := by
  unfold laws_toPointS.f
  simp only [if_pos (show (0 : Int) ≤ (l.length : Int) by omega), Int.toNat_natCast, if_pos (show l.length ≤ 17592186044416 by omega)]
  have := toPoints_l l (by omega) l.length 0 (by omega)
  simpa using this
theorem eqPoints_l (l : List S82) (hb : l.length < 9223372036854775807) (d : Nat) : ∀ i : Nat, i + d = l.length → Ev (fun k => laws_eqPointS.l0 k l l (i : Int)) true := by
  induction d with
  | zero =>
    intro i hi
    refine Ev.step (f := fun _ => some true) (fun k => ?_) (Ev.now _)
    simp only [laws_eqPointS.l0]
    rw [if_neg (by omega)]
  | succ d ih =>
    intro i hi
    have h1 : i < l.length := by omega
    refine Ev.step (fun k => ?_) (ih (i + 1) (by omega))
    simp only [laws_eqPointS.l0, laws_eqPoint.f]
    rw [if_pos (by omega), if_pos (by omega), if_pos (by omega), w1 i (by omega)]
    simp
theorem eqPoints (l : List S82) (hb : l.length < 9223372036854775807) : Ev (fun k => laws_eqPointS.f k l l) true := by
  unfold laws_eqPointS.f
  simp only [if_true]
  exact eqPoints_l l hb l.length 0 (by omega)
theorem toFeature1 (a b c : Int) (s : ByteArray) (l : List S118) (hl : l.length ≤ 1048576) : Ev (fun k => laws_toFeature.f k a b c s l) (a, b, c, s, l.map convP) := by
  unfold laws_toFeature.f
  exact Ev.bind (toPoints l hl) (Ev.now _)
theorem eqFeature1 (a b c : Int) (s : ByteArray) (l : List S82) (hl : l.length < 9223372036854775807) : Ev (fun k => laws_eqFeature.f k a b c s l a b c s l) true := by
  unfold laws_eqFeature.f
  simp only [if_true]
  refine Ev.bind (eqPoints l hl) ?_
  simp only [if_true]
  exact Ev.now _
theorem szFeature1 (a b c : Int) (s : ByteArray) (hs : s.size ≤ 9223372036854775807) (l : List S118) (hl : l.length ≤ 9223372036854775807) (n : Int) (h0 : 0 ≤ n) (h1 : n ≤ 1048576) : ∃ r, laws_szFeature.f a b c s l n = some r ∧ (¬ r < 0 → l.length ≤ 1048576 ∧ s.size ≤ 1048576 ∧ 0 ≤ r ∧ r ≤ 1048576) := by
  unfold laws_szFeature.f laws_szPointS.f
  have w : wrap64 (n - (s.size : Int)) = n - (s.size : Int) := by unfold wrap64; omega
  rw [w]
  by_cases hc : n - (s.size : Int) < 0
  · rw [if_pos hc]; exact ⟨_, rfl, fun h => by omega⟩
  · have w2 : wrap64 (n - (s.size : Int) - (l.length : Int)) = n - (s.size : Int) - (l.length : Int) := by unfold wrap64; omega
    rw [if_neg hc, w2]
    by_cases hc2 : n - (s.size : Int) - (l.length : Int) < 0
    · rw [if_pos hc2]; exact ⟨-1, rfl, fun h => by omega⟩
    · rw [if_neg hc2]; exact ⟨n - (s.size : Int) - (l.length : Int), by simp only [Option.bind_some]; rw [if_neg hc2], fun h => by omega⟩
theorem rdf_at (l : List S24) (i : Nat) (h : i < l.length) : rd_T24 l (i : Int) = l[i] := by
  unfold rd_T24
  rw [Int.toNat_natCast, List.getD_eq_getElem?_getD, List.getElem?_eq_getElem h]
  rfl
theorem rdF_at (l : List S29) (i : Nat) (h : i < l.length) : rd_T29 l (i : Int) = l[i] := by
  unfold rd_T29
  rw [Int.toNat_natCast, List.getD_eq_getElem?_getD, List.getElem?_eq_getElem h]
  rfl
def convF (x : S24) : S29 := ⟨x.f0, x.f1, x.f2, x.f3, x.f4.map convP⟩
theorem toFeatures_l (l : List S24) (hb : l.length < 9223372036854775807) (hp : ∀ x ∈ l, x.f4.length ≤ 1048576) (d : Nat) : ∀ i : Nat, i + d = l.length → Ev (fun k => laws_toFeatureS.l0 k l ((l.map convF).take i ++ List.replicate d z29) (i : Int)) (l.map convF) := by
  induction d with
  | zero =>
    intro i hi
    refine Ev.step (f := fun _ => some (l.map convF)) (fun k => ?_) (Ev.now _)
    simp only [laws_toFeatureS.l0]
    rw [if_neg (by omega), List.take_of_length_le (by simp; omega)]
    simp
  | succ d ih =>
    intro i hi
    have h1 : i < l.length := by omega
    have ht := toPoints l[i].f4 (hp _ (List.getElem_mem h1))
    have hf : Ev (fun k => laws_toFeature.f k l[i].f0 l[i].f1 l[i].f2 l[i].f3 l[i].f4) (l[i].f0, l[i].f1, l[i].f2, l[i].f3, l[i].f4.map convP) := by
      unfold laws_toFeature.f
      exact Ev.bind ht (Ev.now _)
    refine Ev.step (f := fun k => (laws_toFeature.f k l[i].f0 l[i].f1 l[i].f2 l[i].f3 l[i].f4).bind fun b => laws_toFeatureS.l0 k l (((l.map convF).take i ++ List.replicate (d + 1) z29).set i (⟨b.1, b.2.1, b.2.2.1, b.2.2.2.1, b.2.2.2.2⟩ : S29)) ((i + 1 : Nat) : Int)) (fun k => ?_) (Ev.bind hf ?_)
    · simp only [laws_toFeatureS.l0]
      have hlen : (i : Int) < (((l.map convF).take i ++ List.replicate (d + 1) z29).length : Int) := by simp; omega
      rw [if_pos (by omega), if_pos (by omega), rdf_at l i h1, w1 i (by omega), Int.toNat_natCast]
      simp only [if_pos hlen]
    · have hm : i < (l.map convF).length := by simpa using h1
      have e : ((l.map convF).take i ++ List.replicate (d + 1) z29).set i (⟨l[i].f0, l[i].f1, l[i].f2, l[i].f3, l[i].f4.map convP⟩ : S29) = (l.map convF).take (i + 1) ++ List.replicate d z29 := by
        rw [List.set_append_right _ _ (by simp; omega), List.take_succ_eq_append_getElem hm, List.replicate_succ]
        simp only [List.length_take, List.length_map, Nat.min_eq_left (show i ≤ l.length by omega), Nat.sub_self, List.set_cons_zero, List.append_assoc, List.singleton_append, List.getElem_map, convF]
      simp only [e]
      exact ih (i + 1) (by omega)
theorem toFeatures (l : List S24) (hb : l.length ≤ 1048576) (hp : ∀ x ∈ l, x.f4.length ≤ 1048576) : Ev (fun k => laws_toFeatureS.f k l) (l.map convF) := by
  unfold laws_toFeatureS.f
  simp only [if_pos (show (0 : Int) ≤ (l.length : Int) by omega), Int.toNat_natCast, if_pos (show l.length ≤ 4398046511104 by omega)]
  have := toFeatures_l l (by omega) hp l.length 0 (by omega)
  simpa using this
theorem eqFeatures_l (l : List S29) (hb : l.length < 9223372036854775807) (hp : ∀ x ∈ l, x.f4.length < 9223372036854775807) (d : Nat) : ∀ i : Nat, i + d = l.length → Ev (fun k => laws_eqFeatureS.l0 k l l (i : Int)) true := by
  induction d with
  | zero =>
    intro i hi
    refine Ev.step (f := fun _ => some true) (fun k => ?_) (Ev.now _)
    simp only [laws_eqFeatureS.l0]
    rw [if_neg (by omega)]
  | succ d ih =>
    intro i hi
    have h1 : i < l.length := by omega
    have hf : Ev (fun k => laws_eqFeature.f k l[i].f0 l[i].f1 l[i].f2 l[i].f3 l[i].f4 l[i].f0 l[i].f1 l[i].f2 l[i].f3 l[i].f4) true := by
      unfold laws_eqFeature.f
      simp only [if_true]
      refine Ev.bind (eqPoints l[i].f4 (hp _ (List.getElem_mem h1))) ?_
      simp only [if_true]
      exact Ev.now _
    refine Ev.step (f := fun k => (laws_eqFeature.f k l[i].f0 l[i].f1 l[i].f2 l[i].f3 l[i].f4 l[i].f0 l[i].f1 l[i].f2 l[i].f3 l[i].f4).bind fun t => if t = true then laws_eqFeatureS.l0 k l l ((i + 1 : Nat) : Int) else some false) (fun k => ?_) (Ev.bind hf ?_)
    · simp only [laws_eqFeatureS.l0]
      rw [if_pos (by omega), if_pos (by omega), if_pos (by omega), rdF_at l i h1, w1 i (by omega)]
    · simp only [if_true]
      exact ih (i + 1) (by omega)
theorem eqFeatures (l : List S29) (hb : l.length < 9223372036854775807) (hp : ∀ x ∈ l, x.f4.length < 9223372036854775807) : Ev (fun k => laws_eqFeatureS.f k l l) true := by
  unfold laws_eqFeatureS.f
  simp only [if_true]
  exact eqFeatures_l l hb hp l.length 0 (by omega)
theorem szFeatures_l (l : List S24) (hl : ∀ x ∈ l, x.f3.size ≤ 9223372036854775807 ∧ x.f4.length ≤ 9223372036854775807) (hb : l.length < 9223372036854775807) (d : Nat) :
    ∀ (i : Nat) (n : Int), i + d = l.length → 0 ≤ n → n ≤ 1048576 → ∃ r, Ev (fun k => laws_szFeatureS.l0 k l n (i : Int)) r ∧ (¬ r < 0 → ∀ x ∈ l.drop i, x.f3.size ≤ 1048576 ∧ x.f4.length ≤ 1048576) := by
  induction d with
  | zero =>
    intro i n hi h0 h1
    have e : l.drop i = [] := List.drop_of_length_le (by omega)
    rw [e]
    refine ⟨n, Ev.step (f := fun _ => some n) (fun k => ?_) (Ev.now _), fun _ x hx => by simp at hx⟩
    simp only [laws_szFeatureS.l0]
    rw [if_neg (by omega)]
  | succ d ih =>
    intro i n hi h0 h1
    have hl1 : i < l.length := by omega
    obtain ⟨hx1, hx2⟩ := hl _ (List.getElem_mem hl1)
    have e := List.drop_eq_getElem_cons hl1
    rw [e]
    have hw : wrap64 (n - (l[i].f3.size : Int)) = n - (l[i].f3.size : Int) := by unfold wrap64; omega
    by_cases hc : n - (l[i].f3.size : Int) < 0
    · refine ⟨-1, Ev.step (f := fun _ => some (-1)) (fun k => ?_) (Ev.now _), fun h => by omega⟩
      simp only [laws_szFeatureS.l0, laws_szFeature.f]
      rw [if_pos (by omega), if_pos (by omega), rdf_at l i hl1, hw, if_pos hc]
      rfl
    · have hw2 : wrap64 (n - (l[i].f3.size : Int) - (l[i].f4.length : Int)) = n - (l[i].f3.size : Int) - (l[i].f4.length : Int) := by unfold wrap64; omega
      by_cases hc2 : n - (l[i].f3.size : Int) - (l[i].f4.length : Int) < 0
      · refine ⟨-1, Ev.step (f := fun _ => some (-1)) (fun k => ?_) (Ev.now _), fun h => by omega⟩
        simp only [laws_szFeatureS.l0, laws_szFeature.f, laws_szPointS.f]
        rw [if_pos (by omega), if_pos (by omega), rdf_at l i hl1, hw, if_neg hc, hw2, if_pos hc2]
        rfl
      · obtain ⟨r, hr, hr2⟩ := ih (i + 1) (n - (l[i].f3.size : Int) - (l[i].f4.length : Int)) (by omega) (by omega) (by omega)
        refine ⟨r, Ev.step (fun k => ?_) hr, fun h x hx => ?_⟩
        · simp only [laws_szFeatureS.l0, laws_szFeature.f, laws_szPointS.f]
          rw [if_pos (by omega), if_pos (by omega), rdf_at l i hl1, hw, if_neg hc, hw2, if_neg hc2]
          simp only [Option.bind_some]
          rw [if_neg hc2]
          simp only [Option.bind_some]
          rw [if_neg hc2, w1 i (by omega)]
        · rcases List.mem_cons.1 hx with hx | hx
          · subst hx; omega
          · exact hr2 h x hx
theorem szFeatures (l : List S24) (hl : ∀ x ∈ l, x.f3.size ≤ 9223372036854775807 ∧ x.f4.length ≤ 9223372036854775807) (hb : l.length ≤ 9223372036854775807) : ∃ r, Ev (fun k => laws_szFeatureS.f k l 1048576) r ∧ (¬ r < 0 → l.length ≤ 1048576 ∧ ∀ x ∈ l, x.f3.size ≤ 1048576 ∧ x.f4.length ≤ 1048576) := by
  unfold laws_szFeatureS.f
  have hw : wrap64 (1048576 - (l.length : Int)) = 1048576 - (l.length : Int) := by unfold wrap64; omega
  rw [hw]
  by_cases hc : 1048576 - (l.length : Int) < 0
  · exact ⟨-1, by simp only [if_pos hc]; exact Ev.now _, fun h => by omega⟩
  · simp only [if_neg hc]
    obtain ⟨r, hr, hr2⟩ := szFeatures_l l hl (by omega) l.length 0 (1048576 - (l.length : Int)) (by omega) (by omega) (by omega)
    exact ⟨r, hr, fun h => ⟨by omega, by simpa using hr2 h⟩⟩
theorem rdFg (l : List S29) (i : Nat) : rd_T29 l (i : Int) = l.getD i z29 := by unfold rd_T29; rw [Int.toNat_natCast]
def ftF (x : S29) : Bool := ftB x.f0 x.f1 x.f2 x.f3 x.f4
def chk (l : List S29) (i : Nat) : Bool := ftF (l.getD i z29) && (decide (i = 0) || decide ((l.getD (i - 1) z29).f0 < (l.getD i z29).f0))
def srcR (l : List S29) (i d : Nat) : Bool := (List.range' i d).all (chk l)
/-- That features are a source. -/
def srB (l : List S29) : Bool := srcR l 0 l.length && decide ((l.length : Int) ≤ 16)
section
variable (l : List S29) (hb : l.length < 9223372036854775807) (hx : ∀ x ∈ l, x.f3.size ≤ 9223372036854775807 ∧ x.f4.length < 9223372036854775807)
include hb hx
theorem src_sl (d : Nat) : ∀ i : Nat, i + d = l.length → Ev (fun k => spec_IsSource.l0 k l (i : Int)) (srcR l i d && decide ((l.length : Int) ≤ 16)) := by
  induction d with
  | zero =>
    intro i hi
    refine Ev.step (f := fun _ => some (decide ((l.length : Int) ≤ 16))) (fun k => ?_) (by simp only [srcR, List.range'_zero, List.all_nil, Bool.true_and]; exact Ev.now _)
    simp only [spec_IsSource.l0]
    rw [if_neg (by omega)]
  | succ d ih =>
    intro i hi
    have hlt : i < l.length := by omega
    have hm : l.getD i z29 ∈ l := by rw [List.getD_eq_getElem?_getD, List.getElem?_eq_getElem hlt]; exact List.getElem_mem hlt
    obtain ⟨g1, g2⟩ := hx _ hm
    have e : srcR l i (d + 1) = (chk l i && srcR l (i + 1) d) := by unfold srcR; rw [List.range'_succ, List.all_cons]
    rw [e]
    have hr := ih (i + 1) (by omega)
    have ft := ft_s (l.getD i z29).f0 (l.getD i z29).f1 (l.getD i z29).f2 (l.getD i z29).f3 g1 (l.getD i z29).f4 g2
    refine Ev.step (f := fun k => (spec_IsFeature.f k (l.getD i z29).f0 (l.getD i z29).f1 (l.getD i z29).f2 (l.getD i z29).f3 (l.getD i z29).f4).bind fun t242 => (if t242 = true then (if (i : Int) > 0 then (if 0 ≤ (wrap64 ((i : Int) - 1)) then (if (wrap64 ((i : Int) - 1)) < (l.length : Int) then (if ((rd_T29 l (wrap64 ((i : Int) - 1))).f0) ≥ ((l.getD i z29).f0) then (some false) else (spec_IsSource.l0 k l ((i + 1 : Nat) : Int))) else (none)) else (none)) else (spec_IsSource.l0 k l ((i + 1 : Nat) : Int))) else (some false))) (fun k => ?_) (Ev.bind ft ?_)
    · simp only [spec_IsSource.l0]
      rw [if_pos (by omega), if_pos (by omega), rdFg, w1' i (by omega)]
    · unfold chk ftF
      cases hf : ftB (l.getD i z29).f0 (l.getD i z29).f1 (l.getD i z29).f2 (l.getD i z29).f3 (l.getD i z29).f4
      · simp only [Bool.false_eq_true, if_false, Bool.false_and]; exact Ev.now _
      · simp only [if_true, Bool.true_and]
        by_cases h0 : i = 0
        · subst h0
          simp only [if_neg (show ¬ (((0 : Nat) : Int) > 0) by omega), decide_true, Bool.true_or, Bool.true_and]
          exact hr
        · have hw : wrap64 ((i : Int) - 1) = ((i - 1 : Nat) : Int) := by unfold wrap64; omega
          simp only [if_pos (show (i : Int) > 0 by omega), hw, if_pos (show 0 ≤ ((i - 1 : Nat) : Int) by omega), if_pos (show ((i - 1 : Nat) : Int) < (l.length : Int) by omega), rdFg, decide_eq_false h0, Bool.false_or]
          by_cases hc : (l.getD (i - 1) z29).f0 < (l.getD i z29).f0
          · simp only [if_neg (show ¬ ((l.getD (i - 1) z29).f0 ≥ (l.getD i z29).f0) by omega), decide_eq_true hc, Bool.true_and]
            exact hr
          · simp only [if_pos (show (l.getD (i - 1) z29).f0 ≥ (l.getD i z29).f0 by omega), decide_eq_false hc, Bool.false_and]
            exact Ev.now _
theorem src_il (d : Nat) : ∀ i : Nat, i + d = l.length → Ev (fun k => impl_IsSource.l0 k l l (l.length : Int) (i : Int)) (srcR l i d) := by
  induction d with
  | zero =>
    intro i hi
    refine Ev.step (f := fun _ => some true) (fun k => ?_) (Ev.now _)
    simp only [impl_IsSource.l0]
    rw [if_neg (by omega)]
  | succ d ih =>
    intro i hi
    have hlt : i < l.length := by omega
    have hm : l.getD i z29 ∈ l := by rw [List.getD_eq_getElem?_getD, List.getElem?_eq_getElem hlt]; exact List.getElem_mem hlt
    obtain ⟨g1, g2⟩ := hx _ hm
    have e : srcR l i (d + 1) = (chk l i && srcR l (i + 1) d) := by unfold srcR; rw [List.range'_succ, List.all_cons]
    rw [e]
    have hr := ih (i + 1) (by omega)
    have ft := ft_i (l.getD i z29).f0 (l.getD i z29).f1 (l.getD i z29).f2 (l.getD i z29).f3 g1 (l.getD i z29).f4 g2
    refine Ev.step (f := fun k => (impl_IsFeature.f k (l.getD i z29).f0 (l.getD i z29).f1 (l.getD i z29).f2 (l.getD i z29).f3 (l.getD i z29).f4).bind fun t242 => (if t242 = true then (if (i : Int) > 0 then (if 0 ≤ (wrap64 ((i : Int) - 1)) then (if (wrap64 ((i : Int) - 1)) < (l.length : Int) then (if ((l.getD i z29).f0) ≤ ((rd_T29 l (wrap64 ((i : Int) - 1))).f0) then (some false) else (impl_IsSource.l0 k l l (l.length : Int) ((i + 1 : Nat) : Int))) else (none)) else (none)) else (impl_IsSource.l0 k l l (l.length : Int) ((i + 1 : Nat) : Int))) else (some false))) (fun k => ?_) (Ev.bind ft ?_)
    · simp only [impl_IsSource.l0]
      rw [if_pos (by omega), if_pos (by omega), if_pos (by omega), rdFg, w1' i (by omega)]
    · unfold chk ftF
      cases hf : ftB (l.getD i z29).f0 (l.getD i z29).f1 (l.getD i z29).f2 (l.getD i z29).f3 (l.getD i z29).f4
      · simp only [Bool.false_eq_true, if_false, Bool.false_and]; exact Ev.now _
      · simp only [if_true, Bool.true_and]
        by_cases h0 : i = 0
        · subst h0
          simp only [if_neg (show ¬ (((0 : Nat) : Int) > 0) by omega), decide_true, Bool.true_or, Bool.true_and]
          exact hr
        · have hw : wrap64 ((i : Int) - 1) = ((i - 1 : Nat) : Int) := by unfold wrap64; omega
          simp only [if_pos (show (i : Int) > 0 by omega), hw, if_pos (show 0 ≤ ((i - 1 : Nat) : Int) by omega), if_pos (show ((i - 1 : Nat) : Int) < (l.length : Int) by omega), rdFg, decide_eq_false h0, Bool.false_or]
          by_cases hc : (l.getD (i - 1) z29).f0 < (l.getD i z29).f0
          · simp only [if_neg (show ¬ ((l.getD i z29).f0 ≤ (l.getD (i - 1) z29).f0) by omega), decide_eq_true hc, Bool.true_and]
            exact hr
          · simp only [if_pos (show (l.getD i z29).f0 ≤ (l.getD (i - 1) z29).f0 by omega), decide_eq_false hc, Bool.false_and]
            exact Ev.now _
theorem src_s : Ev (fun k => spec_IsSource.f k l) (srB l) := src_sl l hb hx l.length 0 (by omega)
theorem src_i : Ev (fun k => impl_IsSource.f k l) (srB l) := by
  unfold impl_IsSource.f srB
  by_cases h : (l.length : Int) > 16
  · simp only [if_pos h, decide_eq_false (show ¬ ((l.length : Int) ≤ 16) by omega), Bool.and_false]; exact Ev.now _
  · simp only [if_neg h, decide_eq_true (show (l.length : Int) ≤ 16 by omega), Bool.and_true]
    exact src_il l hb hx l.length 0 (by omega)
end
theorem mfT_bound (l : List S29) (h : ∀ x ∈ l, x.f4.length ≤ 1048576) : mfT l ≤ l.length * 2097156 := by
  induction l with
  | nil => simp [mfT]
  | cons x l ih =>
    have h1 := h x (by simp)
    have h2 := ih (fun y hy => h y (by simp [hy]))
    simp only [mfT, List.length_cons, Nat.add_mul, Nat.one_mul]
    omega
theorem markF (l : List S29) (hb : l.length ≤ 1048576) (h : ∀ x ∈ l, x.f4.length ≤ 1048576) : laws_markFeatureS.f l 1 = some (1 + (mfT l : Int)) := by
  have := mfT_bound l h
  unfold laws_markFeatureS.f
  rw [if_pos ⟨by omega, by omega⟩]
theorem rdPc (l : List S110) (i : Nat) : rd_T110 l (i : Int) = l.getD i z110 := by unfold rd_T110; rw [Int.toNat_natCast]
theorem eqPieces_l (l : List S110) (hb : l.length < 9223372036854775807) (d : Nat) : ∀ i : Nat, i + d = l.length → Ev (fun k => laws_eqPieceS.l0 k l l (i : Int)) true := by
  induction d with
  | zero =>
    intro i hi
    refine Ev.step (f := fun _ => some true) (fun k => ?_) (Ev.now _)
    simp only [laws_eqPieceS.l0]
    rw [if_neg (by omega)]
  | succ d ih =>
    intro i hi
    refine Ev.step (fun k => ?_) (ih (i + 1) (by omega))
    simp only [laws_eqPieceS.l0, laws_eqPiece.f, if_true, Option.bind_some]
    rw [if_pos (by omega), if_pos (by omega), if_pos (by omega), w1' i (by omega)]
theorem eqPieces (l : List S110) (hb : l.length < 9223372036854775807) : Ev (fun k => laws_eqPieceS.f k l l) true := by
  unfold laws_eqPieceS.f
  simp only [if_true]
  exact eqPieces_l l hb l.length 0 (by omega)
def Mk (M : List S110) (n : Nat) : Prop := ∀ j : Nat, j < n → M.getD j z110 = ⟨1 + 2 * (j : Int), 2 + 2 * (j : Int)⟩
theorem markPieces_l (n : Nat) (hn : n ≤ 1000000) (d : Nat) : ∀ (i : Nat) (M : List S110), i + d = n → M.length = n → Mk M i → ∃ M' : List S110, Ev (fun k => laws_markPieceS.l0 k M (1 + 2 * (i : Int)) (i : Int)) (1 + 2 * (n : Int), M') ∧ M'.length = n ∧ Mk M' n := by
  induction d with
  | zero =>
    intro i M hi hl hM
    have hin : i = n := by omega
    subst hin
    refine ⟨M, Ev.step (f := fun _ => some (1 + 2 * (i : Int), M)) (fun k => ?_) (Ev.now _), hl, hM⟩
    simp only [laws_markPieceS.l0]
    rw [if_neg (by omega)]
  | succ d ih =>
    intro i M hi hl hM
    have w0 : wrap64 (1 + 2 * (i : Int) + 1) = 2 + 2 * (i : Int) := by unfold wrap64; omega
    have w2 : wrap64 (2 + 2 * (i : Int) + 1) = 1 + 2 * ((i + 1 : Nat) : Int) := by unfold wrap64; omega
    have hL : ((M.set i (⟨1 + 2 * (i : Int), (rd_T110 M (i : Int)).f1⟩ : S110)).set i (⟨(rd_T110 (M.set i (⟨1 + 2 * (i : Int), (rd_T110 M (i : Int)).f1⟩ : S110)) (i : Int)).f0, 2 + 2 * (i : Int)⟩ : S110)) = M.set i ⟨1 + 2 * (i : Int), 2 + 2 * (i : Int)⟩ := by
      rw [List.set_set, rdPc (M.set i _), List.getD_eq_getElem?_getD, List.getElem?_set, if_pos rfl, if_pos (by omega)]; rfl
    obtain ⟨M', e, h1, h2⟩ := ih (i + 1) (M.set i ⟨1 + 2 * (i : Int), 2 + 2 * (i : Int)⟩) (by omega) (by rw [List.length_set]; exact hl) (by
      intro j hj
      by_cases hji : j = i
      · subst hji
        rw [List.getD_eq_getElem?_getD, List.getElem?_set, if_pos rfl, if_pos (by omega)]; rfl
      · rw [List.getD_eq_getElem?_getD, List.getElem?_set, if_neg (fun h => hji h.symm), ← List.getD_eq_getElem?_getD]
        exact hM j (by omega))
    refine ⟨M', Ev.step (fun k => ?_) e, h1, h2⟩
    simp only [laws_markPieceS.l0, Option.bind_some]
    rw [if_pos (by omega), if_pos (by omega), Int.toNat_natCast, w0, w2, w1' i (by omega), hL]
theorem heldPieces_l (n : Nat) (hn : n ≤ 1000000) (M : List S110) (hl : M.length = n) (hM : Mk M n) (d : Nat) : ∀ i : Nat, i + d = n → Ev (fun k => laws_heldPieceS.l0 k M (1 + 2 * (i : Int)) (i : Int)) (1 + 2 * (n : Int)) := by
  induction d with
  | zero =>
    intro i hi
    have hin : i = n := by omega
    subst hin
    refine Ev.step (f := fun _ => some (1 + 2 * (i : Int))) (fun k => ?_) (Ev.now _)
    simp only [laws_heldPieceS.l0]
    rw [if_neg (by omega)]
  | succ d ih =>
    intro i hi
    have w0 : wrap64 (1 + 2 * (i : Int) + 1) = 2 + 2 * (i : Int) := by unfold wrap64; omega
    have w2 : wrap64 (2 + 2 * (i : Int) + 1) = 1 + 2 * ((i + 1 : Nat) : Int) := by unfold wrap64; omega
    refine Ev.step (fun k => ?_) (ih (i + 1) (by omega))
    simp only [laws_heldPieceS.l0, rdPc, hM i (by omega), w0, w2, if_true]
    rw [if_pos (by omega), if_pos (by omega), w1' i (by omega)]
theorem markPieces (l : List S110) (hn : l.length ≤ 1000000) : ∃ M : List S110, Ev (fun k => laws_markPieceS.f k l 1) (1 + 2 * (l.length : Int), M) ∧ Ev (fun k => laws_heldPieceS.f k M 1) (1 + 2 * (l.length : Int)) := by
  obtain ⟨M, e, h1, h2⟩ := markPieces_l l.length hn l.length 0 l (by omega) rfl (fun j hj => by omega)
  exact ⟨M, e, heldPieces_l l.length hn M h1 h2 l.length 0 (by omega)⟩
def pg (id : Int) (i d : Nat) : List S110 := (List.range' i d).map fun (k : Nat) => (⟨id, (k : Int)⟩ : S110)
theorem pg_len (id : Int) (i d : Nat) : (pg id i d).length = d := by simp [pg]
theorem pg_step (id : Int) (i d : Nat) : pg id i (d + 1) = (⟨id, (i : Int)⟩ : S110) :: pg id (i + 1) d := by unfold pg; rw [List.range'_succ, List.map_cons]
def prF (x : S29) : List S85 := prB x.f0 x.f1 x.f2 x.f3 x.f4
def nF (x : S29) : Nat := if x.f1 = 1 then 1 else (prF x).length
theorem nF_le (x : S29) : nF x ≤ 1000 := by
  unfold nF prF
  have := prB_len x.f0 x.f1 x.f2 x.f3 x.f4
  split <;> omega
def apF (l : List S29) (i d : Nat) : List S110 := (List.range' i d).flatMap fun i => pg (l.getD i z29).f0 0 (nF (l.getD i z29))
theorem apF_step (l : List S29) (i d : Nat) : apF l i (d + 1) = pg (l.getD i z29).f0 0 (nF (l.getD i z29)) ++ apF l (i + 1) d := by unfold apF; rw [List.range'_succ, List.flatMap_cons]
theorem apF_len (l : List S29) (d : Nat) : ∀ i, (apF l i d).length ≤ 1000 * d := by
  induction d with
  | zero => intro i; simp [apF]
  | succ d ih =>
    intro i
    have h1 := nF_le (l.getD i z29)
    have h2 := ih (i + 1)
    rw [apF_step, List.length_append, pg_len]
    omega
section
variable (l : List S29) (hb : l.length < 9223372036854775807) (hx : ∀ x ∈ l, x.f3.size ≤ 9223372036854775807 ∧ x.f4.length < 9223372036854775807)
theorem ap_s1 (i n : Nat) (hi : i < l.length) (hlen : l.length < 9223372036854775807) (hn : n ≤ 1000) (r : List S110) (d : Nat) : ∀ (j : Nat) (o : List S110), j + d = n → o.length + d ≤ 1000000 →
    Ev (fun k => spec_AllPieces.l0 k l (o ++ pg (l.getD i z29).f0 j d) ((i + 1 : Nat) : Int)) r → Ev (fun k => spec_AllPieces.l1 k l o (i : Int) (n : Int) (j : Int)) r := by
  induction d with
  | zero =>
    intro j o hj ho h
    rw [show pg (l.getD i z29).f0 j 0 = [] from rfl, List.append_nil] at h
    refine Ev.step (fun k => ?_) h
    simp only [spec_AllPieces.l1]
    rw [if_neg (by omega), w1' i (by omega)]
  | succ d ih =>
    intro j o hj ho h
    rw [pg_step] at h
    have hr := ih (j + 1) (o ++ [(⟨(l.getD i z29).f0, (j : Int)⟩ : S110)]) (by omega) (by simp; omega) (by rw [List.append_assoc]; exact h)
    refine Ev.step (fun k => ?_) hr
    simp only [spec_AllPieces.l1]
    rw [if_pos (by omega), if_pos (by omega), if_pos (by omega), if_pos (by omega), rdFg, w1' j (by omega)]
include hb hx
theorem ap_sl (hs : srB l = true) (d : Nat) : ∀ (i : Nat) (o : List S110), i + d = l.length → o.length + 1000 * d ≤ 900000 → Ev (fun k => spec_AllPieces.l0 k l o (i : Int)) (o ++ apF l i d) := by
  induction d with
  | zero =>
    intro i o hi ho
    rw [show apF l i 0 = [] from rfl, List.append_nil]
    refine Ev.step (f := fun k => spec_AllPieces.j1 k l o (i : Int) false) (fun k => ?_) (Ev.step (f := fun _ => some o) (fun k => by simp [spec_AllPieces.j1]) (Ev.now _))
    simp only [spec_AllPieces.l0]
    rw [if_neg (by omega)]
  | succ d ih =>
    intro i o hi ho
    have hlt : i < l.length := by omega
    have hm : l.getD i z29 ∈ l := by rw [List.getD_eq_getElem?_getD, List.getElem?_eq_getElem hlt]; exact List.getElem_mem hlt
    obtain ⟨g1, g2⟩ := hx _ hm
    have hn := nF_le (l.getD i z29)
    rw [apF_step, ← List.append_assoc]
    have hr := ih (i + 1) (o ++ pg (l.getD i z29).f0 0 (nF (l.getD i z29))) (by omega) (by rw [List.length_append, pg_len]; omega)
    have h1 := ap_s1 l i (nF (l.getD i z29)) hlt hb hn _ (nF (l.getD i z29)) 0 o (by omega) (by omega) hr
    have h2 : Ev (fun k => spec_AllPieces.j2 k l o (i : Int) (nF (l.getD i z29) : Int)) (o ++ pg (l.getD i z29).f0 0 (nF (l.getD i z29)) ++ apF l (i + 1) d) := Ev.step (fun k => by simp only [spec_AllPieces.j2]; rfl) h1
    have src := src_s l hb hx
    rw [hs] at src
    refine Ev.step (f := fun k => (spec_IsSource.f k l).bind fun t248 => spec_AllPieces.j1 k l o (i : Int) t248) (fun k => ?_) (Ev.bind src ?_)
    · simp only [spec_AllPieces.l0]
      rw [if_pos (by omega)]
    · have pr := pr_s (l.getD i z29).f0 (l.getD i z29).f1 (l.getD i z29).f2 (l.getD i z29).f3 g1 (l.getD i z29).f4 g2
      refine Ev.step (f := fun k => (spec_PartsOf.f k (l.getD i z29).f0 (l.getD i z29).f1 (l.getD i z29).f2 (l.getD i z29).f3 (l.getD i z29).f4).bind fun t250 => (if (l.getD i z29).f1 = 1 then (spec_AllPieces.j2 k l o (i : Int) 1) else (spec_AllPieces.j2 k l o (i : Int) (t250.length : Int)))) (fun k => ?_) (Ev.bind pr ?_)
      · simp only [spec_AllPieces.j1, if_true, rdFg]
        rw [if_pos (by omega), if_pos (by omega)]
      · unfold nF prF at h2 ⊢
        by_cases h1' : (l.getD i z29).f1 = 1
        · simp only [if_pos h1'] at h2 ⊢; exact h2
        · simp only [if_neg h1'] at h2 ⊢; exact h2
theorem ap_s : Ev (fun k => spec_AllPieces.f k l) (if srB l = true then apF l 0 l.length else []) := by
  unfold spec_AllPieces.f
  by_cases hs : srB l = true
  · rw [if_pos hs]
    have h16 : l.length ≤ 16 := by
      have h := hs
      unfold srB at h
      rw [Bool.and_eq_true, decide_eq_true_eq] at h
      omega
    have h := ap_sl l hb hx hs l.length 0 [] (by omega) (by simp; omega)
    rw [List.nil_append] at h
    exact h
  · rw [if_neg hs]
    have hf : srB l = false := by simpa using hs
    have src := src_s l hb hx
    rw [hf] at src
    have dead : Ev (fun k => spec_AllPieces.j1 k l [] 0 false) [] := Ev.step (f := fun _ => some []) (fun k => by simp [spec_AllPieces.j1]) (Ev.now _)
    by_cases h0 : (0 : Int) < (l.length : Int)
    · refine Ev.step (f := fun k => (spec_IsSource.f k l).bind fun t248 => spec_AllPieces.j1 k l [] 0 t248) (fun k => ?_) (Ev.bind src dead)
      simp only [spec_AllPieces.l0]
      rw [if_pos h0]
    · refine Ev.step (fun k => ?_) dead
      simp only [spec_AllPieces.l0]
      rw [if_neg h0]
omit hb hx in
theorem po_il (a b c : Int) (s : ByteArray) (L : List S82) (e f g h : Int) (sg : List S85) (hs : sg.length ≤ 1000) (d : Nat) : ∀ (i : Nat) (o : List S110), i + d = sg.length → o.length + d ≤ 1000000 →
    Ev (fun k => impl_piecesOf.l0 k true o sg (sg.length : Int) (i : Int) a b c s L e f g h) (o ++ pg a i d) := by
  induction d with
  | zero =>
    intro i o hi ho
    rw [show pg a i 0 = [] from rfl, List.append_nil]
    refine Ev.step (f := fun _ => some o) (fun k => ?_) (Ev.now _)
    simp only [impl_piecesOf.l0]
    rw [if_neg (by omega)]
  | succ d ih =>
    intro i o hi ho
    rw [pg_step]
    have hr := ih (i + 1) (o ++ [(⟨a, (i : Int)⟩ : S110)]) (by omega) (by simp; omega)
    rw [List.append_assoc] at hr
    refine Ev.step (fun k => ?_) hr
    simp only [impl_piecesOf.l0, if_true]
    rw [if_pos (by omega), if_pos (by omega), if_pos (by omega), if_pos (by omega), w1' i (by omega)]
omit hb hx in
theorem po_i (x : S29) (g1 : x.f3.size ≤ 9223372036854775807) (g2 : x.f4.length < 9223372036854775807) : Ev (fun k => impl_piecesOf.f k x.f0 x.f1 x.f2 x.f3 x.f4 0 0 0 0 true) (pg x.f0 0 (nF x)) := by
  have pr := pr_i x.f0 x.f1 x.f2 x.f3 g1 x.f4 g2
  have hl := prB_len x.f0 x.f1 x.f2 x.f3 x.f4
  unfold impl_piecesOf.f nF prF
  simp only [Option.bind_some, if_true]
  by_cases h1 : x.f1 = 1
  · simp only [if_pos h1]
    have h0 : prB x.f0 x.f1 x.f2 x.f3 x.f4 = [] := by rw [h1]; exact prB_one _ _ _ _
    rw [h0] at pr
    refine Ev.step (f := fun k => impl_piecesOf.j1 k true ([] ++ [(⟨x.f0, 0⟩ : S110)]) x.f0 x.f1 x.f2 x.f3 x.f4 0 0 0 0) (fun k => ?_) ?_
    · simp only [impl_piecesOf.j0, if_true]
      rw [if_pos (by decide)]
    · refine Ev.step (f := fun k => (impl_PartsOf.f k x.f0 x.f1 x.f2 x.f3 x.f4).bind fun t422 => impl_piecesOf.l0 k true ([] ++ [(⟨x.f0, 0⟩ : S110)]) t422 (t422.length : Int) 0 x.f0 x.f1 x.f2 x.f3 x.f4 0 0 0 0) (fun k => by simp only [impl_piecesOf.j1]) (Ev.bind pr ?_)
      have := po_il x.f0 x.f1 x.f2 x.f3 x.f4 0 0 0 0 [] (by simp) 0 0 ([] ++ [(⟨x.f0, 0⟩ : S110)]) rfl (by simp)
      exact this
  · simp only [if_neg h1]
    refine Ev.step (f := fun k => impl_piecesOf.j1 k true [] x.f0 x.f1 x.f2 x.f3 x.f4 0 0 0 0) (fun k => ?_) ?_
    · simp only [impl_piecesOf.j0, Bool.false_eq_true, if_false]
    · refine Ev.step (f := fun k => (impl_PartsOf.f k x.f0 x.f1 x.f2 x.f3 x.f4).bind fun t422 => impl_piecesOf.l0 k true [] t422 (t422.length : Int) 0 x.f0 x.f1 x.f2 x.f3 x.f4 0 0 0 0) (fun k => by simp only [impl_piecesOf.j1]) (Ev.bind pr ?_)
      have := po_il x.f0 x.f1 x.f2 x.f3 x.f4 0 0 0 0 (prB x.f0 x.f1 x.f2 x.f3 x.f4) (by omega) (prB x.f0 x.f1 x.f2 x.f3 x.f4).length 0 [] (by omega) (by simp; omega)
      rw [List.nil_append] at this
      exact this
theorem ap_il (d : Nat) : ∀ (i : Nat) (o : List S110), i + d = l.length → o.length + 1000 * d ≤ 900000 → Ev (fun k => impl_AllPieces.l0 k o l (l.length : Int) (i : Int)) (o ++ apF l i d) := by
  induction d with
  | zero =>
    intro i o hi ho
    rw [show apF l i 0 = [] from rfl, List.append_nil]
    refine Ev.step (f := fun _ => some o) (fun k => ?_) (Ev.now _)
    simp only [impl_AllPieces.l0]
    rw [if_neg (by omega)]
  | succ d ih =>
    intro i o hi ho
    have hlt : i < l.length := by omega
    have hm : l.getD i z29 ∈ l := by rw [List.getD_eq_getElem?_getD, List.getElem?_eq_getElem hlt]; exact List.getElem_mem hlt
    obtain ⟨g1, g2⟩ := hx _ hm
    have hn := nF_le (l.getD i z29)
    rw [apF_step, ← List.append_assoc]
    have hr := ih (i + 1) (o ++ pg (l.getD i z29).f0 0 (nF (l.getD i z29))) (by omega) (by rw [List.length_append, pg_len]; omega)
    refine Ev.step (f := fun k => (impl_piecesOf.f k (l.getD i z29).f0 (l.getD i z29).f1 (l.getD i z29).f2 (l.getD i z29).f3 (l.getD i z29).f4 0 0 0 0 true).bind fun t440 => (if o.length + t440.length < 8796093022208 then (impl_AllPieces.l0 k (o ++ t440) l (l.length : Int) ((i + 1 : Nat) : Int)) else (none))) (fun k => ?_) (Ev.bind (po_i _ g1 g2) ?_)
    · simp only [impl_AllPieces.l0, rdFg]
      rw [if_pos (by omega), if_pos (by omega), if_pos (by omega), w1' i (by omega)]
    · simp only [if_pos (show o.length + (pg (l.getD i z29).f0 0 (nF (l.getD i z29))).length < 8796093022208 by rw [pg_len]; omega)]
      exact hr
theorem ap_i : Ev (fun k => impl_AllPieces.f k l) (if srB l = true then apF l 0 l.length else []) := by
  unfold impl_AllPieces.f
  simp only [Option.bind_some]
  refine Ev.bind (src_i l hb hx) ?_
  by_cases hs : srB l = true
  · simp only [if_pos hs]
    have h16 : l.length ≤ 16 := by
      have h := hs
      unfold srB at h
      rw [Bool.and_eq_true, decide_eq_true_eq] at h
      omega
    have h := ap_il l hb hx l.length 0 [] (by omega) (by simp; omega)
    rw [List.nil_append] at h
    exact h
  · simp only [if_neg hs]
    exact Ev.now _
end
theorem main : ∀ (l0 : List (S24)), (l0.length ≤ 9223372036854775807 ∧ ∀ x ∈ l0, ((Lit.int .i64 x.f0).wf = true ∧ (Lit.int .i64 x.f1).wf = true ∧ (Lit.int .i64 x.f2).wf = true ∧ x.f3.size ≤ 9223372036854775807 ∧ (x.f4.length ≤ 9223372036854775807 ∧ ∀ y ∈ x.f4, ((Lit.int .i64 y.f0).wf = true ∧ (Lit.int .i64 y.f1).wf = true)))) → ∃ k, laws_FnExactAllPieces.f k l0 = some true := by
  intro l hl
  refine Ev.rounds (r := true) ?_
  unfold laws_FnExactAllPieces.f
  obtain ⟨r, hr, hb⟩ := szFeatures l (fun x hx => ⟨(hl.2 x hx).2.2.2.1, (hl.2 x hx).2.2.2.2.1⟩) hl.1
  refine Ev.bind hr ?_
  by_cases hc : r < 0
  · simp only [if_pos hc]; exact Ev.now _
  · simp only [if_neg hc]
    obtain ⟨h1, h2⟩ := hb hc
    have t := toFeatures l h1 (fun x hx => (h2 x hx).2)
    have hxL : ∀ x ∈ l.map convF, x.f3.size ≤ 9223372036854775807 ∧ x.f4.length < 9223372036854775807 := by
      intro x hx
      obtain ⟨y, hy, rfl⟩ := List.mem_map.1 hx
      have := h2 y hy
      unfold convF
      simp only [List.length_map]
      omega
    have hxL2 : ∀ x ∈ l.map convF, x.f4.length ≤ 1048576 := by
      intro x hx
      obtain ⟨y, hy, rfl⟩ := List.mem_map.1 hx
      have := h2 y hy
      unfold convF
      simp only [List.length_map]
      omega
    have hL1 : (l.map convF).length ≤ 1048576 := by simpa using h1
    have hL : (l.map convF).length < 9223372036854775807 := by omega
    generalize l.map convF = L at t hxL hxL2 hL1 hL
    have s1 := ap_s L hL hxL
    have s2 := ap_i L hL hxL
    have hA : (if srB L = true then apF L 0 L.length else []).length ≤ 900000 := by
      by_cases hs : srB L = true
      · rw [if_pos hs]
        have h := hs
        unfold srB at h
        rw [Bool.and_eq_true, decide_eq_true_eq] at h
        have := apF_len L L.length 0
        omega
      · rw [if_neg hs]; simp
    generalize (if srB L = true then apF L 0 L.length else []) = A at s1 s2 hA
    have ep := eqPieces A (by omega)
    have ef := eqFeatures L hL (fun x hx => (hxL x hx).2)
    have mf := markF L hL1 hxL2
    obtain ⟨M, m1, m2⟩ := markPieces A (by omega)
    refine Ev.bind t (Ev.bind s1 (Ev.bind t (Ev.bind s2 (Ev.bind ep ?_))))
    simp only [if_true]
    refine Ev.bind t (Ev.bind ef ?_)
    simp only [if_true, mf, Option.bind_some, if_neg (show ¬ (1 + (mfT L : Int) < 0) by omega)]
    refine Ev.bind ep ?_
    simp only [Bool.not_true]
    refine Ev.step (f := fun k => (laws_markPieceS.f k A 1).bind fun bt475 => ((laws_heldPieceS.f k bt475.2 1).bind fun t477 => (if t477 < 0 then (some false) else (if t477 = bt475.1 then ((laws_toFeatureS.f k l).bind fun t478 => ((impl_AllPieces.f k t478).bind fun t481 => ((laws_eqPieceS.f k t481 A).bind fun t484 => (if t484 = true then ((laws_heldPieceS.f k bt475.2 1).bind fun t485 => (if t485 < 0 then (some false) else (if t485 = bt475.1 then (some true) else (some false)))) else (some false))))) else (some false))))) (fun k => by simp only [laws_FnExactAllPieces.j0, Bool.false_eq_true, if_false]) ?_
    refine Ev.bind m1 (Ev.bind m2 ?_)
    simp only [if_neg (show ¬ (1 + 2 * (A.length : Int) < 0) by omega), if_true]
    refine Ev.bind t (Ev.bind s2 (Ev.bind ep ?_))
    simp only [if_true]
    refine Ev.bind m2 ?_
    simp only [if_neg (show ¬ (1 + 2 * (A.length : Int) < 0) by omega), if_true]
    exact Ev.now _
end Go.Proofs.Ytdfehjfmihokpaa.Pure.FnExactAllPieces

namespace Go.Proofs.Ytdfehjfmihokpaa.fnExactAllPieces
open Go.ChangeShapes Go.WideShapes Go.ChangeAt Go.RowKit
open Go.ChangeMaps (open_string shut_string)
open Go.Proofs.YtdfehjfmihokpaaOpen Go.Proofs.Ytdfehjfmihokpaa.PFnExactAllPieces Go.Proofs.YtdfehjfmihokpaaW.PrintWords
set_option linter.unusedVariables false
set_option linter.unusedSimpArgs false
theorem own : ownKnob Try.prog.godebug = none := by kernel_rfl
theorem laidOut : laidOutB Try.prog = true := by kernel_rfl
theorem o3 : Opens Try.prog 3 (Kd.int .i64) (fun n => (Lit.int .i64 n).wf = true) := opens_int Try.underlying3
theorem o9 : Opens Try.prog 9 Kd.string (fun s => s.size ≤ 9223372036854775807) := opens_string Try.underlying9
theorem o118 : Opens Try.prog 118 k118 (fun x => ((Lit.int .i64 x.f0).wf = true ∧ (Lit.int .i64 x.f1).wf = true)) := opens_struct Try.underlying118 (opensFs_cons o3 (by kernel_rfl) (by kernel_rfl) (opensFs_one o3 (by kernel_rfl) (by kernel_rfl))) (by kernel_rfl) (fun x : S118 => (x.f0, x.f1)) (fun p => ⟨p.1, p.2⟩) (fun _ => rfl)
theorem o22 : Opens Try.prog 22 (Kd.slice 118 k118) (fun l => l.length ≤ 9223372036854775807 ∧ ∀ x ∈ l, ((Lit.int .i64 x.f0).wf = true ∧ (Lit.int .i64 x.f1).wf = true)) := opens_slice Try.underlying22 o118 (by kernel_rfl) 118
theorem o24 : Opens Try.prog 24 k24 (fun x => ((Lit.int .i64 x.f0).wf = true ∧ (Lit.int .i64 x.f1).wf = true ∧ (Lit.int .i64 x.f2).wf = true ∧ x.f3.size ≤ 9223372036854775807 ∧ (x.f4.length ≤ 9223372036854775807 ∧ ∀ y ∈ x.f4, ((Lit.int .i64 y.f0).wf = true ∧ (Lit.int .i64 y.f1).wf = true)))) := opens_struct Try.underlying24 (opensFs_cons o3 (by kernel_rfl) (by kernel_rfl) (opensFs_cons o3 (by kernel_rfl) (by kernel_rfl) (opensFs_cons o3 (by kernel_rfl) (by kernel_rfl) (opensFs_cons o9 (by kernel_rfl) (by kernel_rfl) (opensFs_one o22 (by kernel_rfl) (by kernel_rfl)))))) (by kernel_rfl) (fun x : S24 => (x.f0, x.f1, x.f2, x.f3, x.f4)) (fun p => ⟨p.1, p.2.1, p.2.2.1, p.2.2.2.1, p.2.2.2.2⟩) (fun _ => rfl)
theorem o35 : Opens Try.prog 35 (Kd.slice 24 k24) (fun l => l.length ≤ 9223372036854775807 ∧ ∀ x ∈ l, ((Lit.int .i64 x.f0).wf = true ∧ (Lit.int .i64 x.f1).wf = true ∧ (Lit.int .i64 x.f2).wf = true ∧ x.f3.size ≤ 9223372036854775807 ∧ (x.f4.length ≤ 9223372036854775807 ∧ ∀ y ∈ x.f4, ((Lit.int .i64 y.f0).wf = true ∧ (Lit.int .i64 y.f1).wf = true)))) := opens_slice Try.underlying35 o24 (by kernel_rfl) 24
theorem okTypes : ∀ t ∈ [35], Try.prog.readableRec t = true ∧ t < Try.prog.types.size := by
  intro t ht; simp only [List.mem_cons, List.not_mem_nil, or_false] at ht; rcases ht with rfl <;> exact ⟨by kernel_rfl, of_decide_eq_true (by kernel_rfl)⟩
set_option maxRecDepth 100000 in
theorem lifted (os : Os) (started : os.Started) (H : Type) (enc : TypeId × Value → H) :
    ReturnsInHanded {} Try.checked os 10 .any (Rows.fnExactAllPiecesSpec.pre6 enc Try.prog Try.f10 Rows.fnExactAllPiecesRow.domain false) (Rows.fnExactAllPiecesSpec.post enc Try.prog Try.f10 false true false false) := by
  refine returnsInHanded_of_change_sized (C := Try.checked) own started (by kernel_rfl) Try.func10
    (ChangeSpec.witness6 (enc := enc) (C := Try.checked) false ⟨#[], #[.slice none 0 0], []⟩ 8 (by kernel_rfl) (by kernel_rfl) (by kernel_rfl) (by kernel_rfl)) ?_
  intro W base args ds gs before hval0 hW hcnd hsz0 _
  have hval : ∀ (j : Nat) t v, Try.f10.params[j]? = some t → args[j]? = some v → Value.okWide Try.prog W .any base t v := hval0
  have hW' := hW
  obtain ⟨p, q, hA0, hV, rfl, hfz, hnd⟩ := hW
  have hA : DataW.TrodAll enc Try.prog W 0 (fun _ => true) true Try.f10.params.toList args.toList ds p := hA0
  rw [Try.params10] at hA hval
  have hAk := hA
  obtain ⟨v0, vs0, d0, ds0, p0, q0, hargs0, rfl, rfl, h0, r0⟩ := trodAll_cons hA
  obtain ⟨rfl, rfl, rfl⟩ := trodAll_nil r0
  obtain rfl : args = #[v0] := by cases args; simp_all
  obtain ⟨rfl, rfl⟩ := trodVars_none hV
  obtain ⟨n0, hn0⟩ := h0
  obtain ⟨l0, hK0, w0⟩ := o35 _ _ _ _ _ _ hn0
  obtain ⟨A0, c0, rfl, hc0, hr0⟩ := slice_of Try.underlying35 (hval 0 35 v0 rfl rfl) hK0
  obtain ⟨k, hk⟩ := Pure.FnExactAllPieces.main l0 w0
  refine (PFnExactAllPieces.laws_FnExactAllPieces.calls k _ _ l0 true W hr0 hc0 hk).mono fun e W' ⟨he, bel0⟩ => ?_
  subst he
  have bel : Below W.heap.size W W' := bel0
  have hst := args_stay laidOut bel okTypes (fun x hx => hW'.lt x (by first | (simp at hx; done) | simpa using hx)) hAk
  exact ⟨_, rfl, _, _, _, [], _, [], hW', trodAll_mk1 (shut_bool Try.underlying4 _), hst, rfl, bel.frame _, fun h => by cases h⟩
theorem over : Rows.fnExactAllPiecesRow.holds Try.pinned (OpenSpec.ofChange Rows.fnExactAllPiecesSpec) :=
  OpenClaim.holds_of_wide 10 Try.f10 rfl rfl rfl rfl rfl rfl rfl ⟨rfl, rfl, rfl, rfl, rfl⟩ rfl rfl rfl rfl rfl (by kernel_rfl) Try.func10 (Facts.joined (by kernel_rfl))
    (of_decide_eq_true (by kernel_rfl)) (by unfold Func.isWrapper; first | (rw [if_pos (by decide +kernel)]; kernel_rfl) | (rw [if_neg (by decide +kernel)]; exact ⟨rfl, rfl⟩))
    (fun os started H enc _ => lifted os started H enc)
end Go.Proofs.Ytdfehjfmihokpaa.fnExactAllPieces
namespace Go.Proofs.Ytdfehjfmihokpaa
/-- The row, under a short name, for the claim. -/
theorem fnExactAllPieces_holds : Rows.FnExactAllPiecesSaid := fnExactAllPieces.over
end Go.Proofs.Ytdfehjfmihokpaa
