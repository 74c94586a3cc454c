-- Written by a program of this session's: the kit's print, turned (turnprint.py): functions, and that Go comes to just their answers.
import Derived.Test.YthodhcalknelcaaZ
import Derived.Test.YthodhcalknelcaaPFnMergedx0
import Derived.Test.YthodhcalknelcaaPFnMergedx9
namespace Go.Proofs.Ythodhcalknelcaa.PFnMerged
open Go.RowKit Go.Proofs.YthodhcalknelcaaW.PrintWords Go.Proofs.YthodhcalknelcaaW.PrintLast Go.Proofs.YthodhcalknelcaaW.PrintMore Go.Proofs.YthodhcalknelcaaGeo Go.Proofs.YthodhcalknelcaaHand Go.Proofs.YthodhcalknelcaaZ
attribute [local go_sem] max2_int min2_int max_two min_two max_three min_three max_four min_four   -- for this text's walks alone
set_option linter.unusedVariables false
set_option linter.unusedSimpArgs false

/-! ### spec_l15Numbers: function 65 -/
mutual
def spec_l15Numbers.l0 : Nat → List Int → Int → Int → Int → ByteArray → Option (List Int)
 | 0, _, _, _, _, _ => none
 | k + 1, x3, x4, x325000, x325001, x325002 => if x4 < (x325002.size : Int) then (if x3.length < 17592186044416 then (spec_l15Numbers.l0 k (x3 ++ [x4]) (wrap64 (x4 + 1)) x325000 x325001 x325002) else (none)) else (spec_l15Numbers.l1 k x3 true x325000 x325001 x325002)
def spec_l15Numbers.l1 : Nat → List Int → Bool → Int → Int → ByteArray → Option (List Int)
 | 0, _, _, _, _, _ => none
 | k + 1, x3, x5, x325000, x325001, x325002 => if x5 = true then (spec_l15Numbers.l2 k x3 false 0 x325000 x325001 x325002) else (some x3)
def spec_l15Numbers.l2 : Nat → List Int → Bool → Int → Int → Int → ByteArray → Option (List Int)
 | 0, _, _, _, _, _, _ => none
 | k + 1, x3, x5, x6, x325000, x325001, x325002 => if x6 < (x3.length : Int) then (spec_l15Numbers.l3 k x3 x5 x6 0 x325000 x325001 x325002) else (spec_l15Numbers.l1 k x3 x5 x325000 x325001 x325002)
def spec_l15Numbers.l3 : Nat → List Int → Bool → Int → Int → Int → Int → ByteArray → Option (List Int)
 | 0, _, _, _, _, _, _, _ => none
 | k + 1, x3, x5, x6, x7, x325000, x325001, x325002 => if x7 < (x3.length : Int) then ((spec_l15Next.f x325000 x325001 x325002 x6 x7).bind fun t331 => (if t331 = true then (if 0 ≤ x6 then (if x6 < (x325002.size : Int) then (if 0 ≤ x7 then (if x7 < (x325002.size : Int) then (if (bt x325002 x6) = (bt x325002 x7) then (if x6 < (x3.length : Int) then (if (rd x3 x7) < (rd x3 x6) then (spec_l15Numbers.l3 k (x3.set (x6 : Int).toNat (rd x3 x7)) true x6 (wrap64 (x7 + 1)) x325000 x325001 x325002) else (spec_l15Numbers.l3 k x3 x5 x6 (wrap64 (x7 + 1)) x325000 x325001 x325002)) else (none)) else (spec_l15Numbers.l3 k x3 x5 x6 (wrap64 (x7 + 1)) x325000 x325001 x325002)) else (none)) else (none)) else (none)) else (none)) else (spec_l15Numbers.l3 k x3 x5 x6 (wrap64 (x7 + 1)) x325000 x325001 x325002))) else (spec_l15Numbers.l2 k x3 x5 (wrap64 (x6 + 1)) x325000 x325001 x325002)
end
def spec_l15Numbers.f (k : Nat) (a0_0 : Int) (a0_1 : Int) (a0_2 : ByteArray) : Option (List Int) := spec_l15Numbers.l0 k (([] : List Int)) 0 a0_0 a0_1 a0_2
theorem spec_l15Numbers.mono_l : ∀ k, (∀ y0 y1 y2 y3 y4, LeO (spec_l15Numbers.l0 k y0 y1 y2 y3 y4) (spec_l15Numbers.l0 (k + 1) y0 y1 y2 y3 y4)) ∧ (∀ y0 y1 y2 y3 y4, LeO (spec_l15Numbers.l1 k y0 y1 y2 y3 y4) (spec_l15Numbers.l1 (k + 1) y0 y1 y2 y3 y4)) ∧ (∀ y0 y1 y2 y3 y4 y5, LeO (spec_l15Numbers.l2 k y0 y1 y2 y3 y4 y5) (spec_l15Numbers.l2 (k + 1) y0 y1 y2 y3 y4 y5)) ∧ (∀ y0 y1 y2 y3 y4 y5 y6, LeO (spec_l15Numbers.l3 k y0 y1 y2 y3 y4 y5 y6) (spec_l15Numbers.l3 (k + 1) y0 y1 y2 y3 y4 y5 y6))
 | 0 => ⟨fun _ _ _ _ _ r h => by simp [spec_l15Numbers.l0] at h, fun _ _ _ _ _ r h => by simp [spec_l15Numbers.l1] at h, fun _ _ _ _ _ _ r h => by simp [spec_l15Numbers.l2] at h, fun _ _ _ _ _ _ _ r h => by simp [spec_l15Numbers.l3] at h⟩
 | k + 1 => by
  obtain ⟨ih0, ih1, ih2, ih3⟩ := spec_l15Numbers.mono_l k; refine ⟨?_, ?_, ?_, ?_⟩
  ·intro y0 y1 y2 y3 y4
   unfold spec_l15Numbers.l0
   repeat' first | (with_reducible first | exact ih0 _ _ _ _ _ | exact ih1 _ _ _ _ _ | exact ih2 _ _ _ _ _ _ | exact ih3 _ _ _ _ _ _ _ | exact LeO.refl _ | exact LeO.none _ | refine LeO.ite ?_ ?_ | refine LeO.bind ?_ (fun _ => ?_)) | exact ih0 _ _ _ _ _ | exact ih1 _ _ _ _ _ | exact ih2 _ _ _ _ _ _ | exact ih3 _ _ _ _ _ _ _ | exact LeO.none _ | refine LeO.ite ?_ ?_ | refine LeO.bind ?_ (fun _ => ?_)
  ·intro y0 y1 y2 y3 y4
   unfold spec_l15Numbers.l1
   repeat' first | (with_reducible first | exact ih0 _ _ _ _ _ | exact ih1 _ _ _ _ _ | exact ih2 _ _ _ _ _ _ | exact ih3 _ _ _ _ _ _ _ | exact LeO.refl _ | exact LeO.none _ | refine LeO.ite ?_ ?_ | refine LeO.bind ?_ (fun _ => ?_)) | exact ih0 _ _ _ _ _ | exact ih1 _ _ _ _ _ | exact ih2 _ _ _ _ _ _ | exact ih3 _ _ _ _ _ _ _ | exact LeO.none _ | refine LeO.ite ?_ ?_ | refine LeO.bind ?_ (fun _ => ?_)
  ·intro y0 y1 y2 y3 y4 y5
   unfold spec_l15Numbers.l2
   repeat' first | (with_reducible first | exact ih0 _ _ _ _ _ | exact ih1 _ _ _ _ _ | exact ih2 _ _ _ _ _ _ | exact ih3 _ _ _ _ _ _ _ | exact LeO.refl _ | exact LeO.none _ | refine LeO.ite ?_ ?_ | refine LeO.bind ?_ (fun _ => ?_)) | exact ih0 _ _ _ _ _ | exact ih1 _ _ _ _ _ | exact ih2 _ _ _ _ _ _ | exact ih3 _ _ _ _ _ _ _ | exact LeO.none _ | refine LeO.ite ?_ ?_ | refine LeO.bind ?_ (fun _ => ?_)
  ·intro y0 y1 y2 y3 y4 y5 y6
   unfold spec_l15Numbers.l3
   repeat' first | (with_reducible first | exact ih0 _ _ _ _ _ | exact ih1 _ _ _ _ _ | exact ih2 _ _ _ _ _ _ | exact ih3 _ _ _ _ _ _ _ | exact LeO.refl _ | exact LeO.none _ | refine LeO.ite ?_ ?_ | refine LeO.bind ?_ (fun _ => ?_)) | exact ih0 _ _ _ _ _ | exact ih1 _ _ _ _ _ | exact ih2 _ _ _ _ _ _ | exact ih3 _ _ _ _ _ _ _ | exact LeO.none _ | refine LeO.ite ?_ ?_ | refine LeO.bind ?_ (fun _ => ?_)
theorem spec_l15Numbers.mono : ∀ a0 a1 a2 k, LeO (spec_l15Numbers.f k a0 a1 a2) (spec_l15Numbers.f (k + 1) a0 a1 a2) := by
 intro a0 a1 a2 k; obtain ⟨ih0, ih1, ih2, ih3⟩ := spec_l15Numbers.mono_l k
 unfold spec_l15Numbers.f
 repeat' first | (with_reducible first | exact ih0 _ _ _ _ _ | exact ih1 _ _ _ _ _ | exact ih2 _ _ _ _ _ _ | exact ih3 _ _ _ _ _ _ _ | exact LeO.refl _ | exact LeO.none _ | refine LeO.ite ?_ ?_ | refine LeO.bind ?_ (fun _ => ?_)) | exact ih0 _ _ _ _ _ | exact ih1 _ _ _ _ _ | exact ih2 _ _ _ _ _ _ | exact ih3 _ _ _ _ _ _ _ | exact LeO.none _ | refine LeO.ite ?_ ?_ | refine LeO.bind ?_ (fun _ => ?_)
def spec_l15Numbers.T15 : Bool × List (List Nat × List Nat) := (true, [([], []), ([], []), ([], []), ([0, 1, 2], [0, 1, 2]), ([3, 3], [3]), ([4], [4]), ([5, 4], [4, 5]), ([4], [4]), ([6, 7, 4], [4, 6, 7]), ([4], [4]), ([9, 4], [4, 9]), ([4], [4]), ([10, 11, 4], [4, 10, 11]), ([8, 12, 4], [4, 8, 12]), ([4, 13], [4, 13]), ([14, 4], [14]), ([15], [15]), ([15], [15]), ([16, 17, 15], [15, 16, 17]), ([18, 15], [15, 18]), ([15], [15]), ([15], [15]), ([20, 21, 15], [15, 20, 21]), ([22, 15], [15, 22]), ([19, 23, 15], [15, 19, 23]), ([15, 24], [15, 24])])
def spec_l15Numbers.B15 : List Nat := [0, 0, 0, 7, 15, 31, 63, 31, 255, 31, 543, 31, 3615, 8191, 16383, 32767, 65535, 65535, 262143, 524287, 65535, 65535, 3211263, 7405567, 16777215, 33554431]
theorem spec_l15Numbers.tab15 : rtab .any (opsOf Try.f65 15) = spec_l15Numbers.T15 := by kernel_rfl
theorem spec_l15Numbers.bits15 : waitsOk spec_l15Numbers.T15.2 spec_l15Numbers.B15 = true := by kernel_rfl
set_option maxHeartbeats 8000000 in
set_option maxRecDepth 100000 in
theorem spec_l15Numbers.calls (k : Nat) (a0_0 : Int) (a0_1 : Int) (a0_2 : ByteArray) (r : List Int) (w : World) (h : spec_l15Numbers.f k a0_0 a0_1 a0_2 = some r) :
  Calls Try.prog 65 #[.agg #[.int .i64 a0_0, .int .i64 a0_1, .string a0_2]] w fun e w' => ∃ v0_ : Value, e = .returned (v0_) ∧ Kd.R (Kd.int .i64) 3 w' w.heap.size (fun _ => True) v0_ r ∧ Below w.heap.size w w' := by
 have hu26 := Try.underlying26; have HB := Aside0.mk (Below.refl w.heap.size w); have H : (spec_l15Numbers.l0 k (([] : List Int)) 0 a0_0 a0_1 a0_2) = some r := h; clear h; obtain ⟨y325, hy325⟩ : ∃ y_ : List Int, y_ = (([] : List Int)) := ⟨_, rfl⟩
 replace H : (spec_l15Numbers.l0 k y325 0 a0_0 a0_1 a0_2) = some r := by first | (rw [hy325]; with_reducible exact H) | (have H2_ := (Option.bind_some _ _).symm.trans H; rw [hy325]; with_reducible exact H2_) | (have H2_ := (Option.bind_some _ _).symm.trans H; with_reducible exact H2_) | with_reducible exact H | (rw [hy325]; exact H) | exact H
 have Ny325 := Aside0.mk hy325; clear hy325; have H' := Aside0.mk H; clear H
 go_enter Try.func65, Try.ntmps65; go_wp2_with (first | ((with_reducible refine gt (some 1) rfl ?_); refine bx #[.int .i64 a0_0, .int .i64 a0_1, .string a0_2] 26 ?_; intro gb324 hg w2 hbox hb; have BK324 := Aside0.mk (hbox); have GW324 := Aside0.mk (gez HB hg); have GE324 := Aside0.mk (gez HB hg); replace HB := Aside0.mk (below_step bz hb); clear hb hbox hg) | ((with_reducible refine gate_dst (N := 8) rfl ?_); refine Kd.R_lit (Kd.int .i64) _ 3 ?hg (N := 8) ?hd (xs := ([] : List Int)) (inner := []) (ok := fun _ => True) (okp := fun _ => True) ?hr ?hp (fun _ hk => hk) trivial (Below.refl _ _) (Nat.le_refl _) (by simp) ?_; (case hd => rfl); (case hg => rfl); (case hr => first | (go_simp; done) | (go_simp; rfl)); (case hp => exact (Reps.none _ _)); intro v326 w3 ho4 hb hg_ hnew_; clear hg_ hnew_; (first | rw [← Ny325.out] at ho4 | (simp only [Int.reduceToNat] at ho4; rw [← Ny325.out] at ho4)); have HO327 := Aside0.mk (Kd.R_lower ho4 (below_size bzs)); replace BK324 := Aside0.mk (bbz BK324 hb); replace HB := Aside0.mk (below_step bzs hb); clear hb ho4)); (try simp only [Act.put, List.setIfInBounds_toArray, List.set_cons_zero, List.set_cons_succ])
 go_loopg [3, 4] k (fun kq v3 v4 w' => ∃ (x3_1 : List Int) (x4_1 : Int), v4 = .int .i64 x4_1 ∧ Aside0 (spec_l15Numbers.l0 kq x3_1 x4_1 a0_0 a0_1 a0_2 = some r) ∧ Aside0 (kq ≤ k) ∧ Aside0 (Kd.R (Kd.int .i64) 3 w' w.heap.size (fun _ => True) v3 x3_1) ∧ Aside0 (w'.heap[gb324]? = some (.cells #[.int .i64 a0_0, .int .i64 a0_1, .string a0_2] 26 (0, 0))) ∧ Aside0 (Below w.heap.size w w'))
 case atStart => exact ⟨(y325), (0), rz, H', ⟨Nat.le_refl _⟩, ⟨hr HO327.out⟩, ⟨kz BK324⟩, ⟨bzs⟩⟩
 case round =>
  clear H'; (try clear p2); obtain ⟨x3_1, x4_1, rfl, HA, HK1, HO_3, BK324, HB⟩ := hrel
  cases gk with
  | zero => exact absurd HA.out (by simp [spec_l15Numbers.l0])
  | succ k1 =>
   have H := HA.out; clear HA; simp only [spec_l15Numbers.l0] at H
   by_cases c5 : x4_1 < (a0_2.size : Int)
   ·rw [if_pos c5] at H; have c5b0 := decide_eq_true c5; clear c5
    by_cases c6 : x3_1.length < 17592186044416
    ·rw [if_pos c6] at H; have LMc6 := Aside0.mk c6; clear c6; obtain ⟨y328, hy328⟩ : ∃ y_ : List Int, y_ = (x3_1 ++ [x4_1]) := ⟨_, rfl⟩
     replace H : (spec_l15Numbers.l0 k1 y328 (wrap64 (x4_1 + 1)) a0_0 a0_1 a0_2) = some r := by first | (rw [hy328]; with_reducible exact H) | (have H2_ := (Option.bind_some _ _).symm.trans H; rw [hy328]; with_reducible exact H2_) | (have H2_ := (Option.bind_some _ _).symm.trans H; with_reducible exact H2_) | with_reducible exact H | (rw [hy328]; exact H) | exact H
     have Ny328 := Aside0.mk hy328; clear hy328; have H' := Aside0.mk H; clear H; obtain ⟨hcz7_0, hcz7_1, hcz7_2, hfz7_0, hfz7_1, hfz7_2⟩ := cells3 BK324; go_wp2_with (first | ((with_reducible refine gate_builtin (b := .append) (xs := #[.tmp 16, .tmp 18]) rfl ?_); at_builtin; refine Kd.R_append (Kd.int .i64) (w0 := w) w.heap.size rfl (.tmp 16) (.tmp 18) 29 3 (.int .i64 0) 8 rfl Try.underlying29 info3 rfl (by decide) (by omega) u3 x3_1 x4_1 [.int .i64 x4_1] (fun _ => True) (fun _ => False) rfl rfl ?aP (fun _ hk => hk.elim) ?aF ?aO ?aB ?aS ?aL ?_; (case aP => exact rfl); (case aB => exact bzs); (case aF => exact (fun _ _ => trivial)); (case aO => exact (hr HO_3.out)); (case aS => exact (below_size bzs)); (case aL => have := LMc6.out; omega); intro v329 w8 ho hb hg hat; rw [← Ny328.out] at ho; have n0_ := Aside0.mk (blk_grown (g := gb324) (o := .cells #[.int .i64 a0_0, .int .i64 a0_1, .string a0_2] 26 (0, 0)) (kz BK324) hg (Kd.R_ne HO_3.out BK324.out (by decide))); have n1_ := Aside0.mk (hb); have n2_ := Aside0.mk (ho); clear BK324; clear HB; clear HO_3; have BK324 := n0_; have HB := n1_; have HO330 := n2_; clear n0_ n1_ n2_; clear ho hb hg hat))
     go_roundg k1
     case measure => have := HK1.out; omega
     case rel => exact ⟨(y328), (wrap64 (x4_1 + 1)), rz, H', ⟨by have := HK1.out; omega⟩, ⟨hr HO330.out⟩, ⟨kz BK324⟩, ⟨bzs⟩⟩
    ·rw [if_neg c6] at H
     exact absurd H (by simp)
   ·rw [if_neg c5] at H; have c5b0 := decide_eq_false c5; clear c5; have H' := Aside0.mk H; clear H; obtain ⟨hcz9_0, hcz9_1, hcz9_2, hfz9_0, hfz9_1, hfz9_2⟩ := cells3 BK324; go_wp2; (try simp only [Act.put, List.setIfInBounds_toArray, List.set_cons_zero, List.set_cons_succ])
    go_loopg [5] k1 (fun kq v5 w' => ∃ (x3_2 : List Int) (x5_2 : Bool), v5 = .bool x5_2 ∧ Aside0 (spec_l15Numbers.l1 kq x3_2 x5_2 a0_0 a0_1 a0_2 = some r) ∧ Aside0 (kq ≤ k1) ∧ Aside0 (Kd.R (Kd.int .i64) 3 w' w.heap.size (fun _ => True) u3 x3_2) ∧ Aside0 (w'.heap[gb324]? = some (.cells #[.int .i64 a0_0, .int .i64 a0_1, .string a0_2] 26 (0, 0))) ∧ Aside0 (Below w.heap.size w w'))
    case atStart => exact ⟨(x3_1), (true), rz, H', ⟨Nat.le_refl _⟩, ⟨hr HO_3.out⟩, ⟨kz BK324⟩, ⟨bzs⟩⟩
    case round =>
     clear H'; (try clear p2); (try clear c5); (try clear c5b0); (try clear c6); (try clear p6); (try clear hcz7_0); (try clear hcz7_1); (try clear hcz7_2); (try clear hcz9_0); (try clear hcz9_1); (try clear hcz9_2); (try clear hfz7_0); (try clear hfz7_1); (try clear hfz7_2); (try clear hfz9_0); (try clear hfz9_1); (try clear hfz9_2); (try clear p2); obtain ⟨x3_2, x5_2, rfl, HA, HK2, HO_3, BK324, HB⟩ := hrel
     cases gk with
     | zero => exact absurd HA.out (by simp [spec_l15Numbers.l1])
     | succ k2 =>
      have H := HA.out; clear HA; simp only [spec_l15Numbers.l1] at H
      by_cases c10 : x5_2 = true
      ·subst c10; replace H := ift H; have H' := Aside0.mk H; clear H; go_wp2; (try simp only [Act.put, List.setIfInBounds_toArray, List.set_cons_zero, List.set_cons_succ])
       go_loopg [5, 6] k2 (fun kq v5 v6 w' => ∃ (x3_3 : List Int) (x5_3 : Bool) (x6_3 : Int), v5 = .bool x5_3 ∧ v6 = .int .i64 x6_3 ∧ Aside0 (spec_l15Numbers.l2 kq x3_3 x5_3 x6_3 a0_0 a0_1 a0_2 = some r) ∧ Aside0 (kq ≤ k2) ∧ Aside0 (Kd.R (Kd.int .i64) 3 w' w.heap.size (fun _ => True) u3 x3_3) ∧ Aside0 (w'.heap[gb324]? = some (.cells #[.int .i64 a0_0, .int .i64 a0_1, .string a0_2] 26 (0, 0))) ∧ Aside0 (Below w.heap.size w w'))
       case atStart => exact ⟨(x3_2), (false), (0), rz, rz, H', ⟨Nat.le_refl _⟩, ⟨hr HO_3.out⟩, ⟨kz BK324⟩, ⟨bzs⟩⟩
       case round =>
        clear H'; (try clear c1); (try clear p2); (try clear c5); (try clear c5b0); (try clear c6); (try clear p6); (try clear c10); (try clear hcz7_0); (try clear hcz7_1); (try clear hcz7_2); (try clear hcz9_0); (try clear hcz9_1); (try clear hcz9_2); (try clear hfz7_0); (try clear hfz7_1); (try clear hfz7_2); (try clear hfz9_0); (try clear hfz9_1); (try clear hfz9_2); (try clear p2); (try clear p6); obtain ⟨x3_3, x5_3, x6_3, rfl, rfl, HA, HK3, HO_3, BK324, HB⟩ := hrel
        cases gk with
        | zero => exact absurd HA.out (by simp [spec_l15Numbers.l2])
        | succ k3 =>
         have H := HA.out; clear HA; simp only [spec_l15Numbers.l2] at H
         by_cases c11 : x6_3 < (x3_3.length : Int)
         ·rw [if_pos c11] at H; have c11b0 := decide_eq_true c11; clear c11; have H' := Aside0.mk H; clear H; obtain ⟨Ao12, co12, eo12⟩ := Kd.R_slice HO_3.out; subst eo12; go_wp2; (try simp only [Act.put, List.setIfInBounds_toArray, List.set_cons_zero, List.set_cons_succ])
          go_loopg [5, 7] k3 (fun kq v5 v7 w' => ∃ (x3_4 : List Int) (x5_4 : Bool) (x7_4 : Int), v5 = .bool x5_4 ∧ v7 = .int .i64 x7_4 ∧ Aside0 (spec_l15Numbers.l3 kq x3_4 x5_4 x6_3 x7_4 a0_0 a0_1 a0_2 = some r) ∧ Aside0 (kq ≤ k3) ∧ Aside0 (Kd.R (Kd.int .i64) 3 w' w.heap.size (fun _ => True) (.slice Ao12 x3_3.length co12) x3_4) ∧ Aside0 (w'.heap[gb324]? = some (.cells #[.int .i64 a0_0, .int .i64 a0_1, .string a0_2] 26 (0, 0))) ∧ Aside0 (Below w.heap.size w w'))
          case atStart => exact ⟨(x3_3), (x5_3), (0), rz, rz, H', ⟨Nat.le_refl _⟩, ⟨hr HO_3.out⟩, ⟨kz BK324⟩, ⟨bzs⟩⟩
          case round =>
           clear H'; (try clear c1); (try clear p2); (try clear c5); (try clear c5b0); (try clear c6); (try clear p6); (try clear c10); (try clear c11); (try clear c11b0); (try clear hcz7_0); (try clear hcz7_1); (try clear hcz7_2); (try clear hcz9_0); (try clear hcz9_1); (try clear hcz9_2); (try clear hfz7_0); (try clear hfz7_1); (try clear hfz7_2); (try clear hfz9_0); (try clear hfz9_1); (try clear hfz9_2); (try clear p2); (try clear p6); obtain ⟨x3_4, x5_4, x7_4, rfl, rfl, HA, HK4, HO_3, BK324, HB⟩ := hrel; have hl3_4 := (Kd.R_reads' HO_3.out).1; rw [hl3_4] at HO_3; (try simp only [hl3_4]); (try simp only [hl3_4] at BK324)
           cases gk with
           | zero => exact absurd HA.out (by simp [spec_l15Numbers.l3])
           | succ k4 =>
            have H := HA.out; clear HA; simp only [spec_l15Numbers.l3] at H
            by_cases c13 : x7_4 < (x3_4.length : Int)
            ·rw [if_pos c13] at H; have c13b0 := decide_eq_true c13; (try (have c13b0e_hl3_4 := c13b0; simp only [hl3_4] at c13b0e_hl3_4)); clear c13; replace H := Option.bind_eq_some_iff.mp H; obtain ⟨t331, A140, H⟩ := H; have A14 := Aside0.mk A140; clear A140
             by_cases c15 : t331 = true
             ·subst c15; replace H := ift H
              by_cases c16 : 0 ≤ x6_3
              ·rw [if_pos c16] at H; have c16b0 := decide_eq_true c16; clear c16
               by_cases c17 : x6_3 < (a0_2.size : Int)
               ·rw [if_pos c17] at H; have c17b0 := decide_eq_true c17; clear c17
                by_cases c19 : 0 ≤ x7_4
                ·rw [if_pos c19] at H; have c19b0 := decide_eq_true c19; clear c19
                 by_cases c20 : x7_4 < (a0_2.size : Int)
                 ·rw [if_pos c20] at H; have c20b0 := decide_eq_true c20; clear c20
                  by_cases c22 : (bt a0_2 x6_3) = (bt a0_2 x7_4)
                  ·rw [if_pos c22] at H; have c22b0 : ((bt a0_2 x6_3) == (bt a0_2 x7_4)) = true := beq_iff_eq.mpr c22; have c22b1 : ((bt a0_2 x6_3) != (bt a0_2 x7_4)) = false := bne_eq_false_iff_eq.mpr c22; clear c22
                   by_cases c23 : x6_3 < (x3_4.length : Int)
                   ·rw [if_pos c23] at H; have c23b0 := decide_eq_true c23; (try (have c23b0e_hl3_4 := c23b0; simp only [hl3_4] at c23b0e_hl3_4)); clear c23
                    by_cases c24 : (rd x3_4 x7_4) < (rd x3_4 x6_3)
                    ·rw [if_pos c24] at H; have c24b0 := decide_eq_true c24; clear c24; obtain ⟨y335, hy335⟩ : ∃ y_ : List Int, y_ = (x3_4.set (x6_3 : Int).toNat (rd x3_4 x7_4)) := ⟨_, rfl⟩
                     replace H : (spec_l15Numbers.l3 k4 y335 true x6_3 (wrap64 (x7_4 + 1)) a0_0 a0_1 a0_2) = some r := by first | (rw [hy335]; with_reducible exact H) | (have H2_ := (Option.bind_some _ _).symm.trans H; rw [hy335]; with_reducible exact H2_) | (have H2_ := (Option.bind_some _ _).symm.trans H; with_reducible exact H2_) | with_reducible exact H | (rw [hy335]; exact H) | exact H
                     have Ny335 := Aside0.mk hy335; clear hy335; have H' := Aside0.mk H; clear H; (try go_wp2); replace HO_3 := Aside0.mk (Kd.R_drew HO_3.out); replace BK324 := Aside0.mk (blk_drew BK324.out); replace HB := Aside0.mk (below_drew1 HB.out); have p332 : 0 ≤ (x7_4 : Int) := of_decide_eq_true az; have q332 : x7_4 < (x3_4.length : Int) := of_decide_eq_true az; obtain ⟨ad332, e332, hx332_0⟩ := Kd.at_int (Kd.R_reads' HO_3.out).2.2 x7_4 p332 q332
                     cases e332
                     replace p332 := eq_true p332; replace q332 := eq_true q332; have p333 : 0 ≤ (x6_3 : Int) := of_decide_eq_true az; have q333 : x6_3 < (x3_4.length : Int) := of_decide_eq_true az; obtain ⟨ad333, e333, hx333_0⟩ := Kd.at_int (Kd.R_reads' HO_3.out).2.2 x6_3 p333 q333; obtain rfl : ad332 = ad333 := (by injection e333)
                     replace p333 := eq_true p333; replace q333 := eq_true q333; refine start_ (n := 26) (S := fun w' => w'.cell? ⟨gb324, 0, none⟩ = some (.int .i64 a0_0) ∧ w'.cell? ⟨gb324, 1, none⟩ = some (.int .i64 a0_1) ∧ w'.cell? ⟨gb324, 2, none⟩ = some (.string a0_2) ∧ w'.cell? (ad332.add (x7_4).toNat) = some (.int .i64 (rd x3_4 x7_4)) ∧ w'.cell? (ad332.add (x6_3).toNat) = some (.int .i64 (rd x3_4 x6_3))) (ds := []) #[F,F,F,F,F,F,F,F,F,F,F,F,F,F,F,F,F,F,F,F,F,F,F,F,F,F] (by kernel_rfl) rfl rfl ⟨bc BK324 0, bc BK324 1, bc BK324 2, hx332_0, hx333_0⟩ (fun hHeld => ?_); refine with_tabW spec_l15Numbers.tab15 spec_l15Numbers.bits15 (fun HT_ HW_ => ?_); generalize wr.drew = w26 at HO_3 BK324 HB hx332_0 hx333_0 hHeld ⊢; refine pz HT_ 1 34 ?_; refine pz HT_ 2 35 ?_; refine tz5 HT_ HW_ hHeld 0 33 ?_; refine oz HT_ 3 (some 36) (fun K hK => ?_); refine gz Try.func88 #[.agg #[.int .i64 a0_0, .int .i64 a0_1, .string a0_2], .int .i64 x6_3, .int .i64 x7_4] ?_
                     with_reducible refine (spec_l15Next.calls a0_0 a0_1 a0_2 x6_3 x7_4 true _ A14.out).mono ?_
                     rintro e w27 ⟨rfl, hb⟩; have HS3_ := yz hb hHeld.2.2.2.1; have HS4_ := yz hb hHeld.2.2.2.2; refine ⟨_, rfl, ?_⟩; replace HO_3 := Aside0.mk (rbz HO_3 hb); replace BK324 := Aside0.mk (bbz BK324 hb); replace HB := Aside0.mk (below_step bzs hb); (try clear hb); (try clear hb2); (try clear hk); (try clear hi); have p18 : 0 ≤ (x6_3 : Int) := of_decide_eq_true az; have q18 : x6_3 < (a0_2.size : Int) := of_decide_eq_true az; have hx18 := bt_at a0_2 x6_3; replace p18 := eq_true p18; replace q18 := eq_true q18; have p21 : 0 ≤ (x7_4 : Int) := of_decide_eq_true az; have q21 : x7_4 < (a0_2.size : Int) := of_decide_eq_true az; have hx21 := bt_at a0_2 x7_4; replace p21 := eq_true p21; replace q21 := eq_true q21; refine hK.out _ _ ⟨bc BK324 0, bc BK324 1, bc BK324 2, HS3_, HS4_⟩ (fun hHeld => ?_); clear hK K; refine nz 36 ?_; refine pz HT_ 4 37 ?_; refine pz HT_ 5 38 ?_; refine pz HT_ 7 40 ?_; refine pz HT_ 9 42 ?_; refine pz HT_ 11 44 ?_; refine tz5 HT_ HW_ hHeld 6 39 ?_; refine tz5 HT_ HW_ hHeld 8 41 ?_; refine tz5 HT_ HW_ hHeld 10 43 ?_; refine tz5 HT_ HW_ hHeld 12 45 ?_; refine pz HT_ 13 46 ?_; refine pz HT_ 14 47 ?_; refine pz HT_ 15 48 ?_; refine pz HT_ 16 49 ?_; refine pz HT_ 17 50 ?_; refine pz HT_ 18 51 ?_; refine pz HT_ 20 53 ?_; refine pz HT_ 21 54 ?_; refine pz HT_ 22 55 ?_; refine tz5 HT_ HW_ hHeld 19 52 ?_; refine tz5 HT_ HW_ hHeld 23 56 ?_; refine pz HT_ 24 57 ?_; refine pz HT_ 25 58 ?_; refine dz HT_ ?_; have p334 : 0 ≤ (x7_4 : Int) := of_decide_eq_true az
                     have q334 : x7_4 < (x3_4.length : Int) := of_decide_eq_true az; obtain ⟨ad334, e334, hx334_0⟩ := Kd.at_int (Kd.R_reads' HO_3.out).2.2 x7_4 p334 q334; obtain rfl : ad332 = ad334 := (by injection e334)
                     replace p334 := eq_true p334; replace q334 := eq_true q334; have p25 : 0 ≤ (x6_3 : Int) := of_decide_eq_true az; have q25 : (x6_3 : Int) < ((x3_4.length : Int) : Int) := of_decide_eq_true az; obtain ⟨go25, co25, eo25, gb25, gl25, cl25, HG25⟩ := Kd.R_form HO_3.out (by omega)
                     (first | cases eo25 | (injection eo25 with ea_ en_ ec_; (first | subst ea_ | (injection ea_ with ea_; subst ea_)); subst ec_; clear en_))
                     have GB25 := Aside0.mk gb25; have GG25 := Aside0.mk HG25; clear gb25 gl25 HG25
                     (first | simp only [add_plain] at hx332_0 | skip)
                     (first | simp only [add_plain] at hx333_0 | skip)
                     (first | simp only [add_plain] at hx334_0 | skip)
                     obtain ⟨hx25_0, hf25_0⟩ := Kd.R_celln 0 HO_3.out (x6_3 : Int) p25 q25; replace p25 := eq_true p25; replace q25 := eq_true q25; obtain ⟨hy28_, hz28_⟩ := Kd.R_celln 0 HO_3.out (x6_3 : Int) (of_decide_eq_true az) (of_decide_eq_true az); have HP28 := Kd.R_putg HO_3.out (x6_3 : Int) (rd x3_4 x7_4); (try go_wp2_with (first | ((with_reducible refine gate_store (t := 3) (p := 65) rfl ?_); refine store_event (t := 3) (p := 65) (v := ?vo_w29) (w1 := (w27.setCell ⟨go25, (x6_3 : Int).toNat, none⟩ (.int .i64 (rd x3_4 x7_4)))) ?hg ?ho ?hn ?hr ?_; (case ho => rfl); (case hg => rfl); (case hn => rfl); (case hr => first | (go_simp; done) | (go_simp; rfl)); intro w29 hw; have hg : w27.grownBy w29 (some go25) := (by rw [hw]; exact HP28.2); have hp_ : Kd.R (Kd.int .i64) 3 w29 w.heap.size (fun _ => True) (.slice (some ⟨go25, 0, none⟩) x3_4.length co12) y335 := (by rw [hw, Ny335.out]; exact HP28.1); clear HP28; replace BK324 := Aside0.mk (blk_grown (g := gb324) (o := .cells #[.int .i64 a0_0, .int .i64 a0_1, .string a0_2] 26 (0, 0)) (kz BK324) hg (Kd.R_ne HO_3.out BK324.out (by decide))); replace HO_3 := Aside0.mk (hp_); replace HB := Aside0.mk ((by rw [hw]; exact below_set (HB.out) GB25.out : Below w.heap.size w w29)); clear hg hw hp_))); (try simp only [← hl3_4])
                     go_roundg k4
                     case measure => have := HK1.out; have := HK2.out; have := HK3.out; have := HK4.out; omega
                     case rel => exact ⟨(y335), (true), (wrap64 (x7_4 + 1)), rz, rz, H', ⟨by have := HK1.out; have := HK2.out; have := HK3.out; have := HK4.out; omega⟩, ⟨by (try simp only [hl3_4]); (with_reducible repeat (first | apply Kd.R_alloc | apply Kd.R_drewN | apply Kd.R_drew)); exact HO_3.out⟩, ⟨by (try simp only [hl3_4]); (with_reducible repeat (first | refine blk_drewN ?_ _ | refine blk_drew ?_ | refine blk_alloc ?_ _)); exact BK324.out⟩, ⟨bzs⟩⟩
                    ·rw [if_neg c24] at H; have c24b0 := decide_eq_false c24; clear c24; have H' := Aside0.mk H; clear H; (try go_wp2); replace HO_3 := Aside0.mk (Kd.R_drew HO_3.out); replace BK324 := Aside0.mk (blk_drew BK324.out); replace HB := Aside0.mk (below_drew1 HB.out); have p332 : 0 ≤ (x7_4 : Int) := of_decide_eq_true az; have q332 : x7_4 < (x3_4.length : Int) := of_decide_eq_true az; obtain ⟨ad332, e332, hx332_0⟩ := Kd.at_int (Kd.R_reads' HO_3.out).2.2 x7_4 p332 q332
                     cases e332
                     replace p332 := eq_true p332; replace q332 := eq_true q332; have p333 : 0 ≤ (x6_3 : Int) := of_decide_eq_true az; have q333 : x6_3 < (x3_4.length : Int) := of_decide_eq_true az; obtain ⟨ad333, e333, hx333_0⟩ := Kd.at_int (Kd.R_reads' HO_3.out).2.2 x6_3 p333 q333; obtain rfl : ad332 = ad333 := (by injection e333)
                     replace p333 := eq_true p333; replace q333 := eq_true q333; refine start_ (n := 26) (S := fun w' => w'.cell? ⟨gb324, 0, none⟩ = some (.int .i64 a0_0) ∧ w'.cell? ⟨gb324, 1, none⟩ = some (.int .i64 a0_1) ∧ w'.cell? ⟨gb324, 2, none⟩ = some (.string a0_2) ∧ w'.cell? (ad332.add (x7_4).toNat) = some (.int .i64 (rd x3_4 x7_4)) ∧ w'.cell? (ad332.add (x6_3).toNat) = some (.int .i64 (rd x3_4 x6_3))) (ds := []) #[F,F,F,F,F,F,F,F,F,F,F,F,F,F,F,F,F,F,F,F,F,F,F,F,F,F] (by kernel_rfl) rfl rfl ⟨bc BK324 0, bc BK324 1, bc BK324 2, hx332_0, hx333_0⟩ (fun hHeld => ?_); refine with_tabW spec_l15Numbers.tab15 spec_l15Numbers.bits15 (fun HT_ HW_ => ?_); generalize wr.drew = w30 at HO_3 BK324 HB hx332_0 hx333_0 hHeld ⊢; refine pz HT_ 1 34 ?_; refine pz HT_ 2 35 ?_; refine tz5 HT_ HW_ hHeld 0 33 ?_; refine oz HT_ 3 (some 36) (fun K hK => ?_); refine gz Try.func88 #[.agg #[.int .i64 a0_0, .int .i64 a0_1, .string a0_2], .int .i64 x6_3, .int .i64 x7_4] ?_
                     with_reducible refine (spec_l15Next.calls a0_0 a0_1 a0_2 x6_3 x7_4 true _ A14.out).mono ?_
                     rintro e w31 ⟨rfl, hb⟩; have HS3_ := yz hb hHeld.2.2.2.1; have HS4_ := yz hb hHeld.2.2.2.2; refine ⟨_, rfl, ?_⟩; replace HO_3 := Aside0.mk (rbz HO_3 hb); replace BK324 := Aside0.mk (bbz BK324 hb); replace HB := Aside0.mk (below_step bzs hb); (try clear hb); (try clear hb2); (try clear hk); (try clear hi); have p18 : 0 ≤ (x6_3 : Int) := of_decide_eq_true az; have q18 : x6_3 < (a0_2.size : Int) := of_decide_eq_true az; have hx18 := bt_at a0_2 x6_3; replace p18 := eq_true p18; replace q18 := eq_true q18; have p21 : 0 ≤ (x7_4 : Int) := of_decide_eq_true az; have q21 : x7_4 < (a0_2.size : Int) := of_decide_eq_true az; have hx21 := bt_at a0_2 x7_4; replace p21 := eq_true p21; replace q21 := eq_true q21; refine hK.out _ _ ⟨bc BK324 0, bc BK324 1, bc BK324 2, HS3_, HS4_⟩ (fun hHeld => ?_); clear hK K; refine nz 36 ?_; refine pz HT_ 4 37 ?_; refine pz HT_ 5 38 ?_; refine pz HT_ 7 40 ?_; refine pz HT_ 9 42 ?_; refine pz HT_ 11 44 ?_; refine tz5 HT_ HW_ hHeld 6 39 ?_; refine tz5 HT_ HW_ hHeld 8 41 ?_; refine tz5 HT_ HW_ hHeld 10 43 ?_; refine tz5 HT_ HW_ hHeld 12 45 ?_; refine pz HT_ 13 46 ?_; refine pz HT_ 14 47 ?_; refine pz HT_ 15 48 ?_; refine pz HT_ 16 49 ?_; refine pz HT_ 17 50 ?_; refine pz HT_ 18 51 ?_; refine pz HT_ 20 53 ?_; refine pz HT_ 21 54 ?_; refine pz HT_ 22 55 ?_; refine tz5 HT_ HW_ hHeld 19 52 ?_; refine tz5 HT_ HW_ hHeld 23 56 ?_; refine pz HT_ 24 57 ?_; refine pz HT_ 25 58 ?_; refine dz HT_ ?_; (try go_wp2); (try simp only [← hl3_4])
                     go_roundg k4
                     case measure => have := HK1.out; have := HK2.out; have := HK3.out; have := HK4.out; omega
                     case rel => exact ⟨(x3_4), (x5_4), (wrap64 (x7_4 + 1)), rz, rz, H', ⟨by have := HK1.out; have := HK2.out; have := HK3.out; have := HK4.out; omega⟩, ⟨by (try simp only [hl3_4]); (with_reducible repeat (first | apply Kd.R_alloc | apply Kd.R_drewN | apply Kd.R_drew)); exact HO_3.out⟩, ⟨by (try simp only [hl3_4]); (with_reducible repeat (first | refine blk_drewN ?_ _ | refine blk_drew ?_ | refine blk_alloc ?_ _)); exact BK324.out⟩, ⟨bzs⟩⟩
                   ·rw [if_neg c23] at H
                    exact absurd H (by simp)
                  ·rw [if_neg c22] at H; have c22b0 : ((bt a0_2 x6_3) == (bt a0_2 x7_4)) = false := beq_eq_false_iff_ne.mpr c22; have c22b1 : ((bt a0_2 x6_3) != (bt a0_2 x7_4)) = true := bne_iff_ne.mpr c22; have H' := Aside0.mk H; clear H; (try go_wp2); replace HO_3 := Aside0.mk (Kd.R_drew HO_3.out); replace BK324 := Aside0.mk (blk_drew BK324.out); replace HB := Aside0.mk (below_drew1 HB.out); refine start_ (n := 26) (S := fun w' => w'.cell? ⟨gb324, 0, none⟩ = some (.int .i64 a0_0) ∧ w'.cell? ⟨gb324, 1, none⟩ = some (.int .i64 a0_1) ∧ w'.cell? ⟨gb324, 2, none⟩ = some (.string a0_2)) (ds := []) #[F,F,F,F,F,F,F,F,F,F,F,F,F,F,F,F,F,F,F,F,F,F,F,F,F,F] (by kernel_rfl) rfl rfl ⟨bc BK324 0, bc BK324 1, bc BK324 2⟩ (fun hHeld => ?_); refine with_tabW spec_l15Numbers.tab15 spec_l15Numbers.bits15 (fun HT_ HW_ => ?_); generalize wr.drew = w32 at HO_3 BK324 HB hHeld ⊢; refine pz HT_ 1 34 ?_; refine pz HT_ 2 35 ?_; refine tz3 HT_ HW_ hHeld 0 33 ?_; refine oz HT_ 3 (some 36) (fun K hK => ?_); refine gz Try.func88 #[.agg #[.int .i64 a0_0, .int .i64 a0_1, .string a0_2], .int .i64 x6_3, .int .i64 x7_4] ?_
                   with_reducible refine (spec_l15Next.calls a0_0 a0_1 a0_2 x6_3 x7_4 true _ A14.out).mono ?_
                   rintro e w33 ⟨rfl, hb⟩; refine ⟨_, rfl, ?_⟩; replace HO_3 := Aside0.mk (rbz HO_3 hb); replace BK324 := Aside0.mk (bbz BK324 hb); replace HB := Aside0.mk (below_step bzs hb); (try clear hb); (try clear hb2); (try clear hk); (try clear hi); have p18 : 0 ≤ (x6_3 : Int) := of_decide_eq_true az; have q18 : x6_3 < (a0_2.size : Int) := of_decide_eq_true az; have hx18 := bt_at a0_2 x6_3; replace p18 := eq_true p18; replace q18 := eq_true q18; have p21 : 0 ≤ (x7_4 : Int) := of_decide_eq_true az; have q21 : x7_4 < (a0_2.size : Int) := of_decide_eq_true az; have hx21 := bt_at a0_2 x7_4; replace p21 := eq_true p21; replace q21 := eq_true q21; refine hK.out _ _ ⟨bc BK324 0, bc BK324 1, bc BK324 2⟩ (fun hHeld => ?_); clear hK K; refine nz 36 ?_; refine pz HT_ 4 37 ?_; refine pz HT_ 5 38 ?_; refine pz HT_ 7 40 ?_; refine pz HT_ 9 42 ?_; refine pz HT_ 11 44 ?_; refine tz3 HT_ HW_ hHeld 6 39 ?_; refine tz3 HT_ HW_ hHeld 8 41 ?_; refine tz3 HT_ HW_ hHeld 10 43 ?_; refine tz3 HT_ HW_ hHeld 12 45 ?_; refine pz HT_ 13 46 ?_; refine pz HT_ 14 47 ?_; refine pz HT_ 15 48 ?_; refine uz HT_ 16 49 ?_; refine uz HT_ 17 50 ?_; refine uz HT_ 18 51 ?_; refine uz HT_ 19 52 ?_; refine uz HT_ 20 53 ?_; refine uz HT_ 21 54 ?_; refine uz HT_ 22 55 ?_; refine uz HT_ 23 56 ?_; refine uz HT_ 24 57 ?_; refine pz HT_ 25 58 ?_; refine dz HT_ ?_; (try go_wp2); (try simp only [← hl3_4])
                   go_roundg k4
                   case measure => have := HK1.out; have := HK2.out; have := HK3.out; have := HK4.out; omega
                   case rel => exact ⟨(x3_4), (x5_4), (wrap64 (x7_4 + 1)), rz, rz, H', ⟨by have := HK1.out; have := HK2.out; have := HK3.out; have := HK4.out; omega⟩, ⟨by (try simp only [hl3_4]); (with_reducible repeat (first | apply Kd.R_alloc | apply Kd.R_drewN | apply Kd.R_drew)); exact HO_3.out⟩, ⟨by (try simp only [hl3_4]); (with_reducible repeat (first | refine blk_drewN ?_ _ | refine blk_drew ?_ | refine blk_alloc ?_ _)); exact BK324.out⟩, ⟨bzs⟩⟩
                 ·rw [if_neg c20] at H
                  exact absurd H (by simp)
                ·rw [if_neg c19] at H
                 exact absurd H (by simp)
               ·rw [if_neg c17] at H
                exact absurd H (by simp)
              ·rw [if_neg c16] at H
               exact absurd H (by simp)
             ·replace c15 := Bool.eq_false_iff.mpr c15; subst c15; replace H := iff_ H; have H' := Aside0.mk H; clear H; (try go_wp2); replace HO_3 := Aside0.mk (Kd.R_drew HO_3.out); replace BK324 := Aside0.mk (blk_drew BK324.out); replace HB := Aside0.mk (below_drew1 HB.out); refine start_ (n := 26) (S := fun w' => w'.cell? ⟨gb324, 0, none⟩ = some (.int .i64 a0_0) ∧ w'.cell? ⟨gb324, 1, none⟩ = some (.int .i64 a0_1) ∧ w'.cell? ⟨gb324, 2, none⟩ = some (.string a0_2)) (ds := []) #[F,F,F,F,F,F,F,F,F,F,F,F,F,F,F,F,F,F,F,F,F,F,F,F,F,F] (by kernel_rfl) rfl rfl ⟨bc BK324 0, bc BK324 1, bc BK324 2⟩ (fun hHeld => ?_); refine with_tabW spec_l15Numbers.tab15 spec_l15Numbers.bits15 (fun HT_ HW_ => ?_); generalize wr.drew = w34 at HO_3 BK324 HB hHeld ⊢; refine pz HT_ 1 34 ?_; refine pz HT_ 2 35 ?_; refine tz3 HT_ HW_ hHeld 0 33 ?_; refine oz HT_ 3 (some 36) (fun K hK => ?_); refine gz Try.func88 #[.agg #[.int .i64 a0_0, .int .i64 a0_1, .string a0_2], .int .i64 x6_3, .int .i64 x7_4] ?_
              with_reducible refine (spec_l15Next.calls a0_0 a0_1 a0_2 x6_3 x7_4 false _ A14.out).mono ?_
              rintro e w35 ⟨rfl, hb⟩; refine ⟨_, rfl, ?_⟩; replace HO_3 := Aside0.mk (rbz HO_3 hb); replace BK324 := Aside0.mk (bbz BK324 hb); replace HB := Aside0.mk (below_step bzs hb); (try clear hb); (try clear hb2); (try clear hk); (try clear hi); refine hK.out _ _ ⟨bc BK324 0, bc BK324 1, bc BK324 2⟩ (fun hHeld => ?_); clear hK K; refine nz 36 ?_; refine pz HT_ 4 37 ?_; refine uz HT_ 5 38 ?_; refine uz HT_ 6 39 ?_; refine uz HT_ 7 40 ?_; refine uz HT_ 8 41 ?_; refine uz HT_ 9 42 ?_; refine uz HT_ 10 43 ?_; refine uz HT_ 11 44 ?_; refine uz HT_ 12 45 ?_; refine uz HT_ 13 46 ?_; refine pz HT_ 14 47 ?_; refine pz HT_ 15 48 ?_; refine uz HT_ 16 49 ?_; refine uz HT_ 17 50 ?_; refine uz HT_ 18 51 ?_; refine uz HT_ 19 52 ?_; refine uz HT_ 20 53 ?_; refine uz HT_ 21 54 ?_; refine uz HT_ 22 55 ?_; refine uz HT_ 23 56 ?_; refine uz HT_ 24 57 ?_; refine pz HT_ 25 58 ?_; refine dz HT_ ?_; (try go_wp2); (try simp only [← hl3_4])
              go_roundg k4
              case measure => have := HK1.out; have := HK2.out; have := HK3.out; have := HK4.out; omega
              case rel => exact ⟨(x3_4), (x5_4), (wrap64 (x7_4 + 1)), rz, rz, H', ⟨by have := HK1.out; have := HK2.out; have := HK3.out; have := HK4.out; omega⟩, ⟨by (try simp only [hl3_4]); (with_reducible repeat (first | apply Kd.R_alloc | apply Kd.R_drewN | apply Kd.R_drew)); exact HO_3.out⟩, ⟨by (try simp only [hl3_4]); (with_reducible repeat (first | refine blk_drewN ?_ _ | refine blk_drew ?_ | refine blk_alloc ?_ _)); exact BK324.out⟩, ⟨bzs⟩⟩
            ·rw [if_neg c13] at H; have c13b0 := decide_eq_false c13; (try (have c13b0e_hl3_4 := c13b0; simp only [hl3_4] at c13b0e_hl3_4)); clear c13; have H' := Aside0.mk H; clear H; go_wp2; (try simp only [← hl3_4])
             go_roundg k4
             case measure => have := HK1.out; have := HK2.out; have := HK3.out; have := HK4.out; omega
             case rel => exact ⟨(x3_4), (x5_4), (wrap64 (x6_3 + 1)), rz, rz, H', ⟨by have := HK1.out; have := HK2.out; have := HK3.out; have := HK4.out; omega⟩, ⟨by (try simp only [hl3_4]); (with_reducible repeat (first | apply Kd.R_alloc | apply Kd.R_drewN | apply Kd.R_drew)); exact HO_3.out⟩, ⟨by (try simp only [hl3_4]); (with_reducible repeat (first | refine blk_drewN ?_ _ | refine blk_drew ?_ | refine blk_alloc ?_ _)); exact BK324.out⟩, ⟨bzs⟩⟩
         ·rw [if_neg c11] at H; have c11b0 := decide_eq_false c11; (try (have c11b0e_hl3_4 := c11b0; simp only [hl3_4] at c11b0e_hl3_4)); clear c11; have H' := Aside0.mk H; clear H; obtain ⟨Ao36, co36, eo36⟩ := Kd.R_slice HO_3.out; subst eo36; go_wp2
          go_roundg k3
          case measure => have := HK1.out; have := HK2.out; have := HK3.out; omega
          case rel => exact ⟨(x3_3), (x5_3), rz, H', ⟨by have := HK1.out; have := HK2.out; have := HK3.out; omega⟩, ⟨hr HO_3.out⟩, ⟨kz BK324⟩, ⟨bzs⟩⟩
      ·replace c10 := Bool.eq_false_iff.mpr c10; subst c10; replace H := iff_ H; obtain rfl := Option.some.inj H; go_wp2; go_ret
       exact ⟨_, ez, hr HO_3.out, bzs⟩

end Go.Proofs.Ythodhcalknelcaa.PFnMerged
