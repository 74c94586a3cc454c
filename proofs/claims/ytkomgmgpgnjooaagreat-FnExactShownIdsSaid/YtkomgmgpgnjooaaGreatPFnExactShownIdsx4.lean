-- Written by a program of this session's (evlaw.py).
import Derived.Test.YtkomgmgpgnjooaaGreatPFnExactShownIdsx3
namespace Go.Proofs.YtkomgmgpgnjooaaGreat.PFnExactShownIds
open Go.RowKit Go.Proofs.YtkomgmgpgnjooaaGreatW.PrintWords Go.Proofs.YtkomgmgpgnjooaaGreatW.PrintLast Go.Proofs.YtkomgmgpgnjooaaGreatW.PrintMore Go.Proofs.YtkomgmgpgnjooaaGreatGeo Go.Proofs.YtkomgmgpgnjooaaGreatHand Go.Proofs.YtkomgmgpgnjooaaGreatMeet Go.Proofs.YtkomgmgpgnjooaaGreatQuiet Go.Proofs.YtkomgmgpgnjooaaGreatZ
open Go Go.Proofs.YtkomgmgpgnjooaaGreatEv
attribute [local go_sem] max2_int min2_int max_two min_two max_three min_three max_four min_four   -- for this text's walks alone
set_option linter.unusedVariables false
set_option linter.unusedSimpArgs false



set_option linter.unusedSimpArgs false

attribute [local go_sem high] eqA75
set_option linter.unusedVariables false
set_option linter.unusedSimpArgs false
set_option maxRecDepth 100000
noncomputable section
set_option maxHeartbeats 8000000 in
set_option maxRecDepth 100000 in
theorem spec_l14Kept.calls (A0 : Option Addr) (c0 : Nat) (l0 : List S77) (a1 : Int) (r : List S77) (w : World) (hr0 : Kd.C k77 w A0 l0.length l0) (hc0 : l0.length ≤ c0) (h : spec_l14Kept.f l0 a1 = some r) :
    Calls Tryz.prog 44 #[.slice A0 l0.length c0, .int .i64 a1] w fun e w' => ∃ v0_ : Value, e = .returned (v0_) ∧ Kd.R k77 77 w' w.heap.size (fun _ => True) v0_ r ∧ Below w.heap.size w w' := by
  unfold spec_l14Kept.f at h
  by_cases hlt0 : l0.length < 2199023255552
  rotate_left
  · rw [if_neg hlt0] at h; cases h
  rw [if_pos hlt0] at h
  have KR0 := Aside0.mk hr0
  have KC0 := Aside0.mk hc0
  have LM0 := Aside0.mk hlt0
  have HX := Aside0.mk h
  clear hr0 hc0 h hlt0
  have HOi : Aside0 (Kd.R k77 77 (w.alloc (.cells #[] 77 (0, 0))) w.heap.size (fun _ => True) (.slice (some ⟨w.heap.size, 0, none⟩) 0 0) []) := ⟨⟨fun _ _ => trivial, [], ⟨rfl, .inr ⟨w.heap.size, 0, #[], rfl, Nat.le_refl _, Array.getElem?_push_size, Nat.le_refl _, by decide, rfl, rfl⟩⟩, Reps.none _ _⟩⟩
  have HBi : Aside0 (Below w.heap.size w (w.alloc (.cells #[] 77 (0, 0)))) := ⟨below_alloc (Below.refl _ _) _⟩
  have mixed : Tryz.prog.follows Departure.mixedOrders = true := by kernel_rfl
  go_enter Tryz.func44, Tryz.ntmps44
  go_upto_block 0 with (fail)
  go_cut [5] (fun s5 wc => Aside0 (Kd.R k77 77 wc w.heap.size (fun _ => True) s5 (sortL l0)) ∧ Aside0 (Below w.heap.size w wc))
  case first =>
    go_wp2_with fail
    go_loopg [5, 6] l0.length (fun gg s5 s6 wr => ∃ (i : Nat) (ys : List S77), s6 = .int .i64 (i : Int) ∧ i ≤ l0.length ∧ l0.length - i ≤ gg ∧ Aside0 ((l0.drop i).foldl putL ys = sortL l0) ∧ Aside0 (ys.length = i) ∧ Aside0 (Kd.R k77 77 wr w.heap.size (fun _ => True) s5 ys) ∧ Aside0 (Below w.heap.size w wr))
    case atStart => exact ⟨0, [], rfl, Nat.zero_le _, by omega, ⟨rfl⟩, ⟨rfl⟩, HOi, HBi⟩
    case round =>
      clear HOi HBi
      obtain ⟨i, ys, rfl, hi, hg, HF, HY, HO, HB⟩ := hrel
      by_cases hlt : i < l0.length
      · have q1 : (i : Int) < (l0.length : Int) := by omega
        have q0 : 0 ≤ (i : Int) := by omega
        have m1 : l0.length - (i + 1) < l0.length - i := by omega
        have e0 : wrap64 ((i : Int) + 1) = ((i + 1 : Nat) : Int) := lk_add i (by have := LM0.out; omega)
        obtain ⟨ad, rfl, hx0, hx1, hx2, hx3⟩ := at_T77 KR0.out (i : Int) q0 q1
        unfold rd_T77 at hx0 hx1 hx2 hx3
        rw [Int.toNat_natCast] at hx0 hx1 hx2 hx3
        have hF := HF.out
        rw [fl_drop hlt] at hF
        generalize l0.getD i z77 = x at hx0 hx1 hx2 hx3 hF
        obtain ⟨x0, ⟨x1, x2⟩, x3⟩ := x
        dsimp only at hx0 hx1 hx2 hx3
        have HF2 := Aside0.mk hF
        have HXc : Aside0 (wr.cell? (ad.add (i * 4)) = some (.int .i64 x0) ∧ wr.cell? ⟨(ad.add (i * 4)).block, (ad.add (i * 4)).off + 1, none⟩ = some (.int .i64 x1) ∧ wr.cell? ⟨(ad.add (i * 4)).block, (ad.add (i * 4)).off + 2, none⟩ = some (.int .i64 x2) ∧ wr.cell? ⟨(ad.add (i * 4)).block, (ad.add (i * 4)).off + 3, none⟩ = some (.int .i64 x3)) := ⟨⟨(HB.out.cell (World.block_lt_of_cell? w _ hx0)).trans hx0, (HB.out.cell (World.block_lt_of_cell? w _ hx1)).trans hx1, (HB.out.cell (World.block_lt_of_cell? w _ hx2)).trans hx2, (HB.out.cell (World.block_lt_of_cell? w _ hx3)).trans hx3⟩⟩
        have M1 := Aside0.mk m1
        have E0 := Aside0.mk e0
        have LMy := Aside0.mk (show ys.length < 2199023255552 by have := HY.out; have := LM0.out; omega)
        clear hx0 hx1 hx2 hx3 hF HF m1 e0
        replace q1 := eq_true q1
        replace q0 := eq_true q0
        obtain ⟨Ay, cy, rfl⟩ := Kd.R_slice HO.out
        go_upto_block 2 with (fail)
        go_cut [7] (fun s7 wc => ∃ p : Nat, s7 = .int .i64 (p : Int) ∧ Aside0 (p = posL ys ⟨x0, ⟨x1, x2⟩, x3⟩ ys.length) ∧ Aside0 (wc.cell? (ad.add (i * 4)) = some (.int .i64 x0) ∧ wc.cell? ⟨(ad.add (i * 4)).block, (ad.add (i * 4)).off + 1, none⟩ = some (.int .i64 x1) ∧ wc.cell? ⟨(ad.add (i * 4)).block, (ad.add (i * 4)).off + 2, none⟩ = some (.int .i64 x2) ∧ wc.cell? ⟨(ad.add (i * 4)).block, (ad.add (i * 4)).off + 3, none⟩ = some (.int .i64 x3)) ∧ Aside0 (Kd.R k77 77 wc w.heap.size (fun _ => True) (.slice Ay ys.length cy) ys) ∧ Aside0 (Below w.heap.size w wc))
        case first =>
          go_wp2_with fail
          go_loopg [7] ys.length (fun gh s7 wq => ∃ k : Nat, s7 = .int .i64 (k : Int) ∧ k ≤ ys.length ∧ k ≤ gh ∧ Aside0 (posL ys ⟨x0, ⟨x1, x2⟩, x3⟩ k = posL ys ⟨x0, ⟨x1, x2⟩, x3⟩ ys.length) ∧ Aside0 (wq.cell? (ad.add (i * 4)) = some (.int .i64 x0) ∧ wq.cell? ⟨(ad.add (i * 4)).block, (ad.add (i * 4)).off + 1, none⟩ = some (.int .i64 x1) ∧ wq.cell? ⟨(ad.add (i * 4)).block, (ad.add (i * 4)).off + 2, none⟩ = some (.int .i64 x2) ∧ wq.cell? ⟨(ad.add (i * 4)).block, (ad.add (i * 4)).off + 3, none⟩ = some (.int .i64 x3)) ∧ Aside0 (Kd.R k77 77 wq w.heap.size (fun _ => True) (.slice Ay ys.length cy) ys) ∧ Aside0 (Below w.heap.size w wq))
          case atStart => exact ⟨ys.length, rfl, Nat.le_refl _, Nat.le_refl _, ⟨rfl⟩, HXc, HO, HB⟩
          case round =>
            clear HXc HO HB
            obtain ⟨k, rfl, hk, hgk, HP, HXc, HO, HB⟩ := hrel
            have hX0 := fun (d : Nat) (os : Array Obj) => lkcell HXc.out.1 d os
            have hX1 := fun (d : Nat) (os : Array Obj) => lkcell HXc.out.2.1 d os
            have hX2 := fun (d : Nat) (os : Array Obj) => lkcell HXc.out.2.2.1 d os
            have hX3 := fun (d : Nat) (os : Array Obj) => lkcell HXc.out.2.2.2 d os
            rcases Nat.eq_zero_or_pos k with rfl | hpos
            · have z1 : ((0 : Int) < ((0 : Nat) : Int)) = False := eq_false (by omega)
              go_wp2_with fail
              refine wq_region (by kernel_rfl) (by kernel_rfl) ?_
              iterate 14 (refine wq_step (fun K hK => ?_); go_simp; (first | (refine hK _ ?_; clear hK K) | (apply Exists.intro; refine ⟨fun _ => ?_, hK _ ?_⟩; (first | rfl | (go_simp; done) | (go_simp; rfl)); clear hK K)))
              refine wq_nil ?_
              intro w1 hb
              have q_HXc : Aside0 (w1.cell? (ad.add (i * 4)) = some (.int .i64 x0) ∧ w1.cell? ⟨(ad.add (i * 4)).block, (ad.add (i * 4)).off + 1, none⟩ = some (.int .i64 x1) ∧ w1.cell? ⟨(ad.add (i * 4)).block, (ad.add (i * 4)).off + 2, none⟩ = some (.int .i64 x2) ∧ w1.cell? ⟨(ad.add (i * 4)).block, (ad.add (i * 4)).off + 3, none⟩ = some (.int .i64 x3)) := Aside0.mk (⟨(hb.cell (World.block_lt_of_cell? _ _ HXc.out.1)).trans HXc.out.1, (hb.cell (World.block_lt_of_cell? _ _ HXc.out.2.1)).trans HXc.out.2.1, (hb.cell (World.block_lt_of_cell? _ _ HXc.out.2.2.1)).trans HXc.out.2.2.1, (hb.cell (World.block_lt_of_cell? _ _ HXc.out.2.2.2)).trans HXc.out.2.2.2⟩)
              have q_HO := Aside0.mk (Kd.R_below HO.out hb)
              have q_HB := Aside0.mk (below_step HB.out hb)
              clear hb HXc HO HB
              have HXc := q_HXc
              have HO := q_HO
              have HB := q_HB
              clear q_HXc q_HO q_HB
              go_wp2_with fail
              go_meet
              case rel => exact ⟨0, by first | rfl | (simp; done), HP, HXc, HO, HB⟩
            · have hk9 : k ≤ 9223372036854775807 := by have := LMy.out; omega
              have e1 : wrap64 ((k : Int) - 1) = ((k - 1 : Nat) : Int) := lk_sub k hpos hk9
              have e2 : IntKind.i64.wrap ((k : Int) - 1) = ((k - 1 : Nat) : Int) := (i64_w _).trans e1
              have z1 : ((0 : Int) < (k : Int)) = True := eq_true (by omega)
              have z2 : (0 ≤ ((k - 1 : Nat) : Int)) = True := eq_true (by omega)
              have z3 : (((k - 1 : Nat) : Int) < (ys.length : Int)) = True := eq_true (by omega)
              have z4 : (0 < k) = True := eq_true hpos
              have z5 : (k - 1 < ys.length) = True := eq_true (by omega)
              have z6 : (i < l0.length) = True := eq_true hlt
              obtain ⟨ad2, rfl, hy0, hy1, hy2, hy3⟩ := at_T77 (Kd.R_reads' HO.out).2.2 ((k - 1 : Nat) : Int) (by omega) (by omega)
              unfold rd_T77 at hy0 hy1 hy2 hy3
              rw [Int.toNat_natCast] at hy0 hy1 hy2 hy3
              have hP := HP.out
              have hkk : k - 1 + 1 = k := by omega
              rw [← hkk, posL, hkk] at hP
              generalize ys.getD (k - 1) z77 = y at hy0 hy1 hy2 hy3 hP
              obtain ⟨y0, ⟨y1, y2⟩, y3⟩ := y
              dsimp only at hy0 hy1 hy2 hy3
              have hY0 := fun (d : Nat) (os : Array Obj) => lkcell hy0 d os
              have hY1 := fun (d : Nat) (os : Array Obj) => lkcell hy1 d os
              have hY2 := fun (d : Nat) (os : Array Obj) => lkcell hy2 d os
              have hY3 := fun (d : Nat) (os : Array Obj) => lkcell hy3 d os
              have hab := ab_s x0 x1 x2 x3 y0 y1 y2 y3
              have hk1 : k - 1 ≤ ys.length := by omega
              have hg1 : k - 1 < k := by omega
              clear hy0 hy1 hy2 hy3 hpos hk9 hkk HP
              cases hb_ : abL ⟨x0, ⟨x1, x2⟩, x3⟩ ⟨y0, ⟨y1, y2⟩, y3⟩ with
              | true =>
                rw [hb_] at hab hP
                have HP2 := Aside0.mk ((if_pos rfl).symm.trans hP)
                have HAB := Aside0.mk hab
                clear hab hP hb_
                go_wp2_with fail
                refine wq_region (by kernel_rfl) (by kernel_rfl) ?_
                iterate 14 (refine wq_step (fun K hK => ?_); go_simp; (first | (refine hK _ ?_; clear hK K) | (apply Exists.intro; refine ⟨fun _ => ?_, hK _ ?_⟩; (first | rfl | (go_simp; done) | (go_simp; rfl) | exact qc (fun W => spec_IsAbove.calls _ _ _ _ _ _ _ _ _ W HAB.out) _ _); clear hK K)))
                refine wq_nil ?_
                intro w1 hb
                have q_HXc : Aside0 (w1.cell? (ad.add (i * 4)) = some (.int .i64 x0) ∧ w1.cell? ⟨(ad.add (i * 4)).block, (ad.add (i * 4)).off + 1, none⟩ = some (.int .i64 x1) ∧ w1.cell? ⟨(ad.add (i * 4)).block, (ad.add (i * 4)).off + 2, none⟩ = some (.int .i64 x2) ∧ w1.cell? ⟨(ad.add (i * 4)).block, (ad.add (i * 4)).off + 3, none⟩ = some (.int .i64 x3)) := Aside0.mk (⟨(hb.cell (World.block_lt_of_cell? _ _ HXc.out.1)).trans HXc.out.1, (hb.cell (World.block_lt_of_cell? _ _ HXc.out.2.1)).trans HXc.out.2.1, (hb.cell (World.block_lt_of_cell? _ _ HXc.out.2.2.1)).trans HXc.out.2.2.1, (hb.cell (World.block_lt_of_cell? _ _ HXc.out.2.2.2)).trans HXc.out.2.2.2⟩)
                have q_HO := Aside0.mk (Kd.R_below HO.out hb)
                have q_HB := Aside0.mk (below_step HB.out hb)
                clear hb HXc HO HB
                have HXc := q_HXc
                have HO := q_HO
                have HB := q_HB
                clear q_HXc q_HO q_HB
                go_wp2_with fail
                go_roundg (k - 1)
                case measure => omega
                case rel => exact ⟨k - 1, by first | rfl | rw [e1] | rw [e2], hk1, Nat.le_refl _, HP2, HXc, HO, HB⟩
              | false =>
                rw [hb_] at hab hP
                have HP2 : Aside0 (k = posL ys ⟨x0, ⟨x1, x2⟩, x3⟩ ys.length) := ⟨(if_neg (by decide)).symm.trans hP⟩
                have HAB := Aside0.mk hab
                clear hab hP hb_
                go_wp2_with fail
                refine wq_region (by kernel_rfl) (by kernel_rfl) ?_
                iterate 14 (refine wq_step (fun K hK => ?_); go_simp; (first | (refine hK _ ?_; clear hK K) | (apply Exists.intro; refine ⟨fun _ => ?_, hK _ ?_⟩; (first | rfl | (go_simp; done) | (go_simp; rfl) | exact qc (fun W => spec_IsAbove.calls _ _ _ _ _ _ _ _ _ W HAB.out) _ _); clear hK K)))
                refine wq_nil ?_
                intro w1 hb
                have q_HXc : Aside0 (w1.cell? (ad.add (i * 4)) = some (.int .i64 x0) ∧ w1.cell? ⟨(ad.add (i * 4)).block, (ad.add (i * 4)).off + 1, none⟩ = some (.int .i64 x1) ∧ w1.cell? ⟨(ad.add (i * 4)).block, (ad.add (i * 4)).off + 2, none⟩ = some (.int .i64 x2) ∧ w1.cell? ⟨(ad.add (i * 4)).block, (ad.add (i * 4)).off + 3, none⟩ = some (.int .i64 x3)) := Aside0.mk (⟨(hb.cell (World.block_lt_of_cell? _ _ HXc.out.1)).trans HXc.out.1, (hb.cell (World.block_lt_of_cell? _ _ HXc.out.2.1)).trans HXc.out.2.1, (hb.cell (World.block_lt_of_cell? _ _ HXc.out.2.2.1)).trans HXc.out.2.2.1, (hb.cell (World.block_lt_of_cell? _ _ HXc.out.2.2.2)).trans HXc.out.2.2.2⟩)
                have q_HO := Aside0.mk (Kd.R_below HO.out hb)
                have q_HB := Aside0.mk (below_step HB.out hb)
                clear hb HXc HO HB
                have HXc := q_HXc
                have HO := q_HO
                have HB := q_HB
                clear q_HXc q_HO q_HB
                go_wp2_with fail
                go_meet
                case rel => exact ⟨k, rfl, HP2, HXc, HO, HB⟩
        case rest =>
          clear HXc HO HB
          obtain ⟨p, rfl, HP, HXc, HO, HB⟩ := hcut
          have HL := Aside0.mk (show p ≤ ys.length by rw [HP.out]; exact posL_le _ _ _)
          have EP : Aside0 (putL ys ⟨x0, ⟨x1, x2⟩, x3⟩ = (ys.take p ++ [⟨x0, ⟨x1, x2⟩, x3⟩]) ++ ys.drop p) := ⟨by unfold putL; rw [← HP.out]⟩
          have LM := Aside0.mk (show ys.length < 2199023255552 by have := LMy.out; omega)
          go_upto_region 8 with (fail)
          have HC0 := Aside0.mk (Kd.R_reads' HO.out).2.1
          have HR0 := Aside0.mk (Kd.R_reads' HO.out).2.2
          have HBc := Aside0.mk (below_drew1 HB.out)
          have HS : Aside0 (wc.drew.cell? (ad.add (i * 4)) = some (.int .i64 x0) ∧ wc.drew.cell? ⟨(ad.add (i * 4)).block, (ad.add (i * 4)).off + 1, none⟩ = some (.int .i64 x1) ∧ wc.drew.cell? ⟨(ad.add (i * 4)).block, (ad.add (i * 4)).off + 2, none⟩ = some (.int .i64 x2) ∧ wc.drew.cell? ⟨(ad.add (i * 4)).block, (ad.add (i * 4)).off + 3, none⟩ = some (.int .i64 x3)) := HXc
          have HYL := Aside0.mk (show (putL ys ⟨x0, ⟨x1, x2⟩, x3⟩).length = i + 1 by rw [putL_len, HY.out])
          clear HO HB HXc HP
          obtain ⟨i0, hi0, _, hsz, _⟩ := info_parts info77
          have hl := HL.out
          have d1 : (0 ≤ (p : Int)) = True := eq_true (by omega)
          have d2 : ((p : Int) ≤ (ys.length : Int)) = True := eq_true (by omega)
          have hcutA := cut_to (P := Tryz.prog) 70 77 .i64 Tryz.underlying70 hi0 Ay ys.length cy (p : Int) (by omega) (by omega) HC0.out
          have hcutB := cut_from (P := Tryz.prog) 70 77 .i64 Tryz.underlying70 hi0 4 hsz Ay ys.length cy (p : Int) (by omega) (by omega)
          have hrA := Kd.C_take (m := (p : Int).toNat) (Kd.C_drew HR0.out) (by omega)
          have hrB := Kd.C_drop (m := (p : Int).toNat) (c := cy) (Kd.C_drew HR0.out) (by omega) HC0.out
          obtain ⟨yA, hyA⟩ : ∃ y_ : List S77, y_ = ys.take (p : Int).toNat := ⟨_, rfl⟩
          obtain ⟨yB, hyB⟩ : ∃ y_ : List S77, y_ = ys.drop (p : Int).toNat := ⟨_, rfl⟩
          have hlA : yA.length = (p : Int).toNat := by rw [hyA, List.length_take]; omega
          have hlB : yB.length = ys.length - (p : Int).toNat := by rw [hyB, List.length_drop]
          rw [← hyA] at hrA
          rw [← hyB] at hrB
          rw [← hlA] at hcutA
          obtain ⟨B1, hB1⟩ : ∃ A1, A1 = (if cy = (p : Int).toNat then Ay else (Ay : Option Addr).map (·.add ((p : Int).toNat * 4))) := ⟨_, rfl⟩
          obtain ⟨cB, hcB⟩ : ∃ c1, c1 = cy - (p : Int).toNat := ⟨_, rfl⟩
          replace hrB : Kd.C k77 wc.drew B1 yB.length yB := by rw [hB1]; exact hrB
          rw [← hlB, ← hB1, ← hcB] at hcutB
          have LA := Aside0.mk (show yA.length + 1 + yB.length < 4398046511104 by have := LM.out; omega)
          have YA := Aside0.mk (show yA = ys.take p from hyA)
          have YB := Aside0.mk (show yB = ys.drop p from hyB)
          have HA := Aside0.mk hrA
          have HB2 := Aside0.mk hrB
          clear hrA hrB hyA hyB hlA hlB hB1 hcB hi0 hsz hl
          refine start_ (n := 16) (S := fun w' => w'.cell? (ad.add (i * 4)) = some (.int .i64 x0) ∧ w'.cell? ⟨(ad.add (i * 4)).block, (ad.add (i * 4)).off + 1, none⟩ = some (.int .i64 x1) ∧ w'.cell? ⟨(ad.add (i * 4)).block, (ad.add (i * 4)).off + 2, none⟩ = some (.int .i64 x2) ∧ w'.cell? ⟨(ad.add (i * 4)).block, (ad.add (i * 4)).off + 3, none⟩ = some (.int .i64 x3)) (ds := []) #[false,false,false,false,false,false,false,false,false,false,false,false,false,false,false,false] (by kernel_rfl) rfl rfl HS.out (fun hHeld => ?_)
          refine with_tabW lk.tab8 lk.bits8 (fun HT_ HW_ => ?_)
          have SX : Aside0 (∀ w', Below wc.drew.heap.size wc.drew w' → w'.cell? (ad.add (i * 4)) = some (.int .i64 x0) ∧ w'.cell? ⟨(ad.add (i * 4)).block, (ad.add (i * 4)).off + 1, none⟩ = some (.int .i64 x1) ∧ w'.cell? ⟨(ad.add (i * 4)).block, (ad.add (i * 4)).off + 2, none⟩ = some (.int .i64 x2) ∧ w'.cell? ⟨(ad.add (i * 4)).block, (ad.add (i * 4)).off + 3, none⟩ = some (.int .i64 x3)) := ⟨fun w' hb => ⟨(hb.cell (World.block_lt_of_cell? _ _ hHeld.1)).trans hHeld.1, (hb.cell (World.block_lt_of_cell? _ _ hHeld.2.1)).trans hHeld.2.1, (hb.cell (World.block_lt_of_cell? _ _ hHeld.2.2.1)).trans hHeld.2.2.1, (hb.cell (World.block_lt_of_cell? _ _ hHeld.2.2.2)).trans hHeld.2.2.2⟩⟩
          generalize wc.drew = WD at HA HB2 HBc hHeld SX HS ⊢
          have HB := Aside0.mk (Below.refl WD.heap.size WD)
          refine pz HT_ 1 38 ?_
          refine pz HT_ 2 39 ?_
          refine pz HT_ 3 40 ?_
          refine pz HT_ 5 42 ?_
          refine pz HT_ 6 43 ?_
          refine pz HT_ 7 44 ?_
          refine tz4 HT_ HW_ hHeld 8 45 ?_
          refine pz HT_ 11 48 ?_
          refine pz HT_ 12 49 ?_
          refine pz HT_ 13 50 ?_
          refine join_ (σ := Value × Value × Value) 3 #[true,true,true,true,true,true,true,true,true,true,false,true,true,true,false,false] (fun s_ => [(37, s_.1), (41, s_.2.1), (46, s_.2.2)]) (fun s_ w' => Kd.R k77 77 w' WD.heap.size (fun k_ => some k_ ≠ (s_.2.2 : Value).ownBlock) s_.2.1 yA ∧ Kd.R k77 77 w' WD.heap.size (fun k_ => some k_ ≠ (s_.2.1 : Value).ownBlock) s_.2.2 [(⟨x0, ⟨x1, x2⟩, x3⟩ : S77)] ∧ Below WD.heap.size WD w') ?_ ?_
          rotate_left
          · intro hCont
            refine two_ (i := 0) (j := 9) (Ni := some 37) (Nj := some 46) #[true,true,true,true,false,true,true,true,true,false,false,true,true,true,false,false] #[false,true,true,true,false,true,true,true,true,true,false,true,true,true,false,false] rfl rfl rfl rfl (two_of HT_.out (by kernel_rfl)) (by decide) (by decide) (fun K hK => ?_) (fun K hK => ?_)
            · refine Kd.R_lit_step k77 _ 77 ?hg (N := 37) ?hd (xs := ([] : List S77)) (inner := []) (ok := fun _ => True) (okp := fun _ => True) ?hr ?hp (fun _ hk => hk) trivial (Below.refl _ _) (Nat.le_refl _) (by simp) ?_; (case hd => rfl); (case hg => rfl); (case hr => first | (go_simp; done) | (go_simp; rfl)); (case hp => exact (Reps.none _ _)); intro v0n wN hoN hb hg_ hnew_; clear hg_ hnew_
              have H0 := Aside0.mk (Kd.R_lower hoN (below_size HB.out)); replace HB := Aside0.mk (below_step HB.out hb); clear hb hoN
              refine hK.out _ _ (SX.out _ HB.out) (fun hHeld => ?_); clear hK K
              refine nz 37 ?_
              refine two_ (i := 4) (j := 9) (Ni := some 41) (Nj := some 46) #[true,true,true,true,true,true,true,true,true,false,false,true,true,true,false,false] #[true,true,true,true,false,true,true,true,true,true,false,true,true,true,false,false] rfl rfl rfl rfl (two_of HT_.out (by kernel_rfl)) (by decide) (by decide) (fun K hK => ?_) (fun K hK => ?_)
              · refine Kd.R_append_rows_step k77 (w0 := WD) WD.heap.size (by rfl) (.tmp 37) (.tmp 40) 70 77 (.agg #[(.int .i64 0), (.int .i64 0), (.int .i64 0), (.int .i64 0)]) 32 rfl Tryz.underlying70 info77 rfl (by decide) (by omega) v0n [] yA _ _ _ (fun _ => True) (fun _ => False) rfl rfl H0.out (Kd.C_below HA.out HB.out) (fun _ _ h => h) (fun _ h => h.elim) (fun _ _ => trivial) HB.out (below_size HB.out) (by have := LA.out; simp; omega) ?_; intro v2n wN hoN hb hg hat
                rw [List.nil_append] at hoN; have H2 := Aside0.mk hoN; replace HB := Aside0.mk hb; clear H0 hoN hb hg hat
                refine hK.out _ _ (SX.out _ HB.out) (fun hHeld => ?_); clear hK K
                refine nz 41 ?_; refine oz HT_ 9 (some 46) (fun K hK => ?_)
                refine Kd.R_lit_step k77 _ 77 ?hg (N := 46) ?hd (xs := ([(⟨x0, ⟨x1, x2⟩, x3⟩ : S77)] : List S77)) (inner := [.int .i64 x0, .int .i64 x1, .int .i64 x2, .int .i64 x3]) (ok := fun _ => True) (okp := fun _ => True) ?hr ?hp (fun _ hk => hk) trivial (Below.refl _ _) (Nat.le_refl _) (by simp) ?_; (case hd => rfl); (case hg => rfl); (case hr => first | (go_simp; done) | (go_simp; rfl)); (case hp => exact (Reps.c4 (show Kd.M k77 _ _ _ (⟨x0, ⟨x1, x2⟩, x3⟩ : S77) [.int .i64 x0, .int .i64 x1, .int .i64 x2, .int .i64 x3] from k77_mkM _ _ _ _) (Reps.none _ _))); intro v1n wN hoN hb hg_ hnew_; clear hg_ hnew_
                have H1 := Aside0.mk (Kd.R_lower (Kd.R_new' hoN (Kd.R_lt H2.out)) (below_size HB.out)); replace H2 := Aside0.mk (Kd.R_elder' H2.out (Kd.R_base hoN) hb); replace HB := Aside0.mk (below_step HB.out hb); clear hb hoN
                refine hK.out _ _ (SX.out _ HB.out) (fun hHeld => ?_); clear hK K
                refine nz 46 ?_
                exact norm_ (by simp only [putAll, Act.put, List.setIfInBounds_toArray, List.set_cons_zero, List.set_cons_succ]) (hCont (v0n, v2n, v1n) _ ⟨(Kd.R_mono H2.out (fun _ hk => hk.2)), (Kd.R_mono H1.out (fun _ hk => hk.2)), HB.out⟩)
              · refine Kd.R_lit_step k77 _ 77 ?hg (N := 46) ?hd (xs := ([(⟨x0, ⟨x1, x2⟩, x3⟩ : S77)] : List S77)) (inner := [.int .i64 x0, .int .i64 x1, .int .i64 x2, .int .i64 x3]) (ok := fun _ => True) (okp := fun _ => True) ?hr ?hp (fun _ hk => hk) trivial (Below.refl _ _) (Nat.le_refl _) (by simp) ?_; (case hd => rfl); (case hg => rfl); (case hr => first | (go_simp; done) | (go_simp; rfl)); (case hp => exact (Reps.c4 (show Kd.M k77 _ _ _ (⟨x0, ⟨x1, x2⟩, x3⟩ : S77) [.int .i64 x0, .int .i64 x1, .int .i64 x2, .int .i64 x3] from k77_mkM _ _ _ _) (Reps.none _ _))); intro v1n wN hoN hb hg_ hnew_; clear hg_ hnew_
                have H1 := Aside0.mk (Kd.R_lower (Kd.R_new' hoN (Kd.R_lt H0.out)) (below_size HB.out)); replace H0 := Aside0.mk (Kd.R_elder' H0.out (Kd.R_base hoN) hb); replace HB := Aside0.mk (below_step HB.out hb); clear hb hoN
                refine hK.out _ _ (SX.out _ HB.out) (fun hHeld => ?_); clear hK K
                refine nz 46 ?_; refine oz HT_ 4 (some 41) (fun K hK => ?_)
                refine Kd.R_append_rows_step k77 (w0 := WD) WD.heap.size (by rfl) (.tmp 37) (.tmp 40) 70 77 (.agg #[(.int .i64 0), (.int .i64 0), (.int .i64 0), (.int .i64 0)]) 32 rfl Tryz.underlying70 info77 rfl (by decide) (by omega) v0n [] yA _ _ _ (fun k_ => some k_ ≠ (v1n : Value).ownBlock) (fun _ => False) rfl rfl (Kd.R_mono H0.out (fun _ hk => hk.2)) (Kd.C_below HA.out HB.out) (fun _ _ h => h) (fun _ h => h.elim) (fun k_ hk => Kd.fresh' (Kd.R_lt H1.out) k_ hk) HB.out (below_size HB.out) (by have := LA.out; simp; omega) ?_; intro v2n wN hoN hb hg hat
                rw [List.nil_append] at hoN; have n0_ := Aside0.mk (Kd.R_after (ok := (fun _ => True)) H1.out hg hat); have H2 := Aside0.mk hoN; replace HB := Aside0.mk hb; clear H1 H0 hoN hb hg hat; have H1 := n0_; clear n0_
                refine hK.out _ _ (SX.out _ HB.out) (fun hHeld => ?_); clear hK K
                refine nz 41 ?_
                exact norm_ (by simp only [putAll, Act.put, List.setIfInBounds_toArray, List.set_cons_zero, List.set_cons_succ]) (hCont (v0n, v2n, v1n) _ ⟨H2.out, (Kd.R_mono H1.out (fun _ hk => hk.2)), HB.out⟩)
            · refine Kd.R_lit_step k77 _ 77 ?hg (N := 46) ?hd (xs := ([(⟨x0, ⟨x1, x2⟩, x3⟩ : S77)] : List S77)) (inner := [.int .i64 x0, .int .i64 x1, .int .i64 x2, .int .i64 x3]) (ok := fun _ => True) (okp := fun _ => True) ?hr ?hp (fun _ hk => hk) trivial (Below.refl _ _) (Nat.le_refl _) (by simp) ?_; (case hd => rfl); (case hg => rfl); (case hr => first | (go_simp; done) | (go_simp; rfl)); (case hp => exact (Reps.c4 (show Kd.M k77 _ _ _ (⟨x0, ⟨x1, x2⟩, x3⟩ : S77) [.int .i64 x0, .int .i64 x1, .int .i64 x2, .int .i64 x3] from k77_mkM _ _ _ _) (Reps.none _ _))); intro v1n wN hoN hb hg_ hnew_; clear hg_ hnew_
              have H1 := Aside0.mk (Kd.R_lower hoN (below_size HB.out)); replace HB := Aside0.mk (below_step HB.out hb); clear hb hoN
              refine hK.out _ _ (SX.out _ HB.out) (fun hHeld => ?_); clear hK K
              refine nz 46 ?_; refine oz HT_ 0 (some 37) (fun K hK => ?_)
              refine Kd.R_lit_step k77 _ 77 ?hg (N := 37) ?hd (xs := ([] : List S77)) (inner := []) (ok := fun _ => True) (okp := fun _ => True) ?hr ?hp (fun _ hk => hk) trivial (Below.refl _ _) (Nat.le_refl _) (by simp) ?_; (case hd => rfl); (case hg => rfl); (case hr => first | (go_simp; done) | (go_simp; rfl)); (case hp => exact (Reps.none _ _)); intro v0n wN hoN hb hg_ hnew_; clear hg_ hnew_
              have H0 := Aside0.mk (Kd.R_lower (Kd.R_new' hoN (Kd.R_lt H1.out)) (below_size HB.out)); replace H1 := Aside0.mk (Kd.R_elder' H1.out (Kd.R_base hoN) hb); replace HB := Aside0.mk (below_step HB.out hb); clear hb hoN
              refine hK.out _ _ (SX.out _ HB.out) (fun hHeld => ?_); clear hK K
              refine nz 37 ?_; refine oz HT_ 4 (some 41) (fun K hK => ?_)
              refine Kd.R_append_rows_step k77 (w0 := WD) WD.heap.size (by rfl) (.tmp 37) (.tmp 40) 70 77 (.agg #[(.int .i64 0), (.int .i64 0), (.int .i64 0), (.int .i64 0)]) 32 rfl Tryz.underlying70 info77 rfl (by decide) (by omega) v0n [] yA _ _ _ (fun k_ => some k_ ≠ (v1n : Value).ownBlock) (fun _ => False) rfl rfl (Kd.R_mono H0.out (fun _ hk => hk.2)) (Kd.C_below HA.out HB.out) (fun _ _ h => h) (fun _ h => h.elim) (fun k_ hk => Kd.fresh' (Kd.R_lt H1.out) k_ hk) HB.out (below_size HB.out) (by have := LA.out; simp; omega) ?_; intro v2n wN hoN hb hg hat
              rw [List.nil_append] at hoN; have n0_ := Aside0.mk (Kd.R_after (ok := (fun _ => True)) H1.out hg hat); have H2 := Aside0.mk hoN; replace HB := Aside0.mk hb; clear H1 H0 hoN hb hg hat; have H1 := n0_; clear n0_
              refine hK.out _ _ (SX.out _ HB.out) (fun hHeld => ?_); clear hK K
              refine nz 41 ?_
              exact norm_ (by simp only [putAll, Act.put, List.setIfInBounds_toArray, List.set_cons_zero, List.set_cons_succ]) (hCont (v0n, v2n, v1n) _ ⟨H2.out, (Kd.R_mono H1.out (fun _ hk => hk.2)), HB.out⟩)
          rintro ⟨v0n, v2n, v1n⟩ wN ⟨h0_, h1_, h2_⟩
          clear HB
          have H2 := Aside0.mk h0_; have H1 := Aside0.mk h1_; have HB := Aside0.mk h2_; clear h0_ h1_ h2_; have hHeld := SX.out _ HB.out; obtain ⟨Ax, cx, ex⟩ := Kd.R_slice H1.out; subst ex
          refine norm_ (a' := ?_) ?_ ?_
          rotate_left
          · show putAll _ _ = _
            simp only [putAll, Act.put, List.setIfInBounds_toArray, List.set_cons_zero, List.set_cons_succ]
            rfl
          refine oz HT_ 10 (some 47) (fun K hK => ?_)
          refine Kd.R_append_rows_step k77 (w0 := WD) WD.heap.size (by rfl) (.tmp 41) (.tmp 46) 70 77 (.agg #[(.int .i64 0), (.int .i64 0), (.int .i64 0), (.int .i64 0)]) 32 rfl Tryz.underlying70 info77 rfl (by decide) (by omega) v2n yA [(⟨x0, ⟨x1, x2⟩, x3⟩ : S77)] _ _ _ (fun _ => True) (fun _ => False) rfl rfl (Kd.R_mono H2.out (fun _ _ => trivial)) (Kd.R_reads' H1.out).2.2 (fun _ _ h => h) (fun _ h => h.elim) (fun _ _ => trivial) HB.out (below_size HB.out) (by have := LA.out; simp; omega) ?_; intro v3n wN hoN hb hg hat
          have H3 := Aside0.mk hoN; replace HB := Aside0.mk hb; clear H1 H2 hoN hb hg hat
          refine hK.out _ _ (SX.out _ HB.out) (fun hHeld => ?_); clear hK K
          refine nz 47 ?_; refine oz HT_ 14 (some 51) (fun K hK => ?_)
          refine Kd.R_append_rows_step k77 (w0 := WD) WD.heap.size (by rfl) (.tmp 47) (.tmp 50) 70 77 (.agg #[(.int .i64 0), (.int .i64 0), (.int .i64 0), (.int .i64 0)]) 32 rfl Tryz.underlying70 info77 rfl (by decide) (by omega) v3n (yA ++ [(⟨x0, ⟨x1, x2⟩, x3⟩ : S77)]) yB _ _ _ (fun _ => True) (fun _ => False) rfl rfl H3.out (Kd.C_below HB2.out HB.out) (fun _ _ h => h) (fun _ h => h.elim) (fun _ _ => trivial) HB.out (below_size HB.out) (by have := LA.out; simp; omega) ?_; intro v4n wN hoN hb hg hat
          have H4 := Aside0.mk hoN; replace HB := Aside0.mk hb; clear H3 hoN hb hg hat
          refine hK.out _ _ (SX.out _ HB.out) (fun hHeld => ?_); clear hK K
          refine nz 51 ?_; refine pz HT_ 15 5 ?_; refine dz HT_ ?_
          obtain ⟨Ay, cy, ey⟩ := Kd.R_slice H4.out; subst ey
          clear HA HB2 hHeld SX HS hcutA hcutB d1 d2
          have HO4 := Aside0.mk (Kd.R_lower H4.out (below_size HBc.out)); have HB4 := Aside0.mk (below_step HBc.out HB.out)
          clear H4 HB HBc
          have e0 := E0.out
          go_wp2_with fail
          go_roundg (l0.length - (i + 1))
          case measure => exact Nat.lt_of_lt_of_le M1.out hg
          case rel => exact ⟨i + 1, putL ys ⟨x0, ⟨x1, x2⟩, x3⟩, by first | rfl | rw [e0], hlt, Nat.le_refl _, HF2, HYL, ⟨by rw [show putL ys ⟨x0, ⟨x1, x2⟩, x3⟩ = (yA ++ [⟨x0, ⟨x1, x2⟩, x3⟩]) ++ yB by rw [YA.out, YB.out]; exact EP.out]; exact HO4.out⟩, HB4⟩
      · have ei : i = l0.length := by omega
        subst ei
        have q1 : ((l0.length : Int) < (l0.length : Int)) = False := eq_false (by omega)
        have hF := HF.out
        rw [List.drop_length, List.foldl_nil] at hF
        subst hF
        clear HF HY
        go_wp2_with fail
        go_meet
        case rel => exact ⟨HO, HB⟩
  case rest =>
    clear HOi HBi
    obtain ⟨HO, HB⟩ := hcut
    generalize wc = W0 at *
    have HX2 := HX.out
    have LS := Aside0.mk (show (sortL l0).length < 2199023255552 by rw [sortL_len]; exact LM0.out)
    generalize sortL l0 = L at HO HX2 LS
    have HX := Aside0.mk HX2
    clear HX2
    obtain ⟨A5, c5, rfl⟩ := Kd.R_slice HO.out
    have HSC := Aside0.mk (Kd.R_reads' HO.out).2.2
    have HSi : Aside0 (Kd.C k77 (W0.alloc (.cells #[] 77 (0, 0))) A5 L.length L) := ⟨Kd.C_alloc (Kd.R_reads' HO.out).2.2 _⟩
    have HOi : Aside0 (Kd.R k77 77 (W0.alloc (.cells #[] 77 (0, 0))) W0.heap.size (fun _ => True) (.slice (some ⟨W0.heap.size, 0, none⟩) 0 0) []) := ⟨⟨fun _ _ => trivial, [], ⟨rfl, .inr ⟨W0.heap.size, 0, #[], rfl, Nat.le_refl _, Array.getElem?_push_size, Nat.le_refl _, by decide, rfl, rfl⟩⟩, Reps.none _ _⟩⟩
    have HBi : Aside0 (Below W0.heap.size W0 (W0.alloc (.cells #[] 77 (0, 0)))) := ⟨below_alloc (Below.refl _ _) _⟩
    have HBW := HB
    clear HO HB
    go_upto_block 4 with (fail)
    go_wp2_with fail
    go_loopg [8, 9] L.length (fun gg s8 s9 wr => ∃ (i : Nat) (out : List S77), s9 = .int .i64 (i : Int) ∧ i ≤ L.length ∧ L.length - i ≤ gg ∧ Aside0 (keptS (wrap64 (a1 * a1)) (L.drop i) out = some r) ∧ Aside0 (out.length ≤ i) ∧ Aside0 (Kd.C k77 wr A5 L.length L) ∧ Aside0 (Kd.R k77 77 wr W0.heap.size (fun _ => True) s8 out) ∧ Aside0 (Below W0.heap.size W0 wr))
    case atStart => exact ⟨0, [], rfl, Nat.zero_le _, by omega, HX, ⟨Nat.le_refl _⟩, HSi, HOi, HBi⟩
    case round =>
      clear HSi HOi HBi HX
      obtain ⟨i, out, rfl, hi, hg, HX, HL, HS, HO, HB⟩ := hrel
      by_cases hlt : i < L.length
      · have q1 : (i : Int) < (L.length : Int) := by omega
        have q0 : 0 ≤ (i : Int) := by omega
        have m1 : L.length - (i + 1) < L.length - i := by omega
        have e0 : wrap64 ((i : Int) + 1) = ((i + 1 : Nat) : Int) := lk_add i (by have := LS.out; omega)
        obtain ⟨ad, rfl, hx0, hx1, hx2, hx3⟩ := at_T77 HS.out (i : Int) q0 q1
        unfold rd_T77 at hx0 hx1 hx2 hx3
        rw [Int.toNat_natCast] at hx0 hx1 hx2 hx3
        have hX := HX.out
        rw [kept_drop hlt] at hX
        generalize L.getD i z77 = x at hx0 hx1 hx2 hx3 hX
        obtain ⟨b0, hk0, hX⟩ := Option.bind_eq_some_iff.mp hX
        have HK0 := Aside0.mk hk0
        have HX2 := Aside0.mk hX
        obtain ⟨x0, ⟨x1, x2⟩, x3⟩ := x
        dsimp only at hx0 hx1 hx2 hx3
        have HXc : Aside0 (wr.cell? (ad.add (i * 4)) = some (.int .i64 x0) ∧ wr.cell? ⟨(ad.add (i * 4)).block, (ad.add (i * 4)).off + 1, none⟩ = some (.int .i64 x1) ∧ wr.cell? ⟨(ad.add (i * 4)).block, (ad.add (i * 4)).off + 2, none⟩ = some (.int .i64 x2) ∧ wr.cell? ⟨(ad.add (i * 4)).block, (ad.add (i * 4)).off + 3, none⟩ = some (.int .i64 x3)) := ⟨⟨hx0, hx1, hx2, hx3⟩⟩
        have M1 := Aside0.mk m1
        have E0 := Aside0.mk e0
        have LMo := Aside0.mk (show out.length < 2199023255552 by have := HL.out; have := LS.out; omega)
        clear hx0 hx1 hx2 hx3 hX hk0 HX m1 e0
        replace q1 := eq_true q1
        replace q0 := eq_true q0
        have q2 := eq_true hlt
        obtain ⟨Ao, co, rfl⟩ := Kd.R_slice HO.out
        go_upto_block 6 with (fail)
        go_cut [10] (fun s10 wq => s10 = .bool b0 ∧ Aside0 (wq.cell? (ad.add (i * 4)) = some (.int .i64 x0) ∧ wq.cell? ⟨(ad.add (i * 4)).block, (ad.add (i * 4)).off + 1, none⟩ = some (.int .i64 x1) ∧ wq.cell? ⟨(ad.add (i * 4)).block, (ad.add (i * 4)).off + 2, none⟩ = some (.int .i64 x2) ∧ wq.cell? ⟨(ad.add (i * 4)).block, (ad.add (i * 4)).off + 3, none⟩ = some (.int .i64 x3)) ∧ Aside0 (Kd.C k77 wq (some ad) L.length L) ∧ Aside0 (Kd.R k77 77 wq W0.heap.size (fun _ => True) (.slice Ao out.length co) out) ∧ Aside0 (Below W0.heap.size W0 wq))
        case first =>
          go_wp2_with fail
          go_loopg [10, 11] out.length (fun gh s10 s11 wq => ∃ (k : Nat) (b : Bool), s10 = .bool b ∧ s11 = .int .i64 (k : Int) ∧ k ≤ out.length ∧ out.length - k ≤ gh ∧ Aside0 (kpS (wrap64 (a1 * a1)) ⟨x0, ⟨x1, x2⟩, x3⟩ (out.drop k) b = some b0) ∧ Aside0 (wq.cell? (ad.add (i * 4)) = some (.int .i64 x0) ∧ wq.cell? ⟨(ad.add (i * 4)).block, (ad.add (i * 4)).off + 1, none⟩ = some (.int .i64 x1) ∧ wq.cell? ⟨(ad.add (i * 4)).block, (ad.add (i * 4)).off + 2, none⟩ = some (.int .i64 x2) ∧ wq.cell? ⟨(ad.add (i * 4)).block, (ad.add (i * 4)).off + 3, none⟩ = some (.int .i64 x3)) ∧ Aside0 (Kd.C k77 wq (some ad) L.length L) ∧ Aside0 (Kd.R k77 77 wq W0.heap.size (fun _ => True) (.slice Ao out.length co) out) ∧ Aside0 (Below W0.heap.size W0 wq))
          case atStart => exact ⟨0, true, rfl, rfl, Nat.zero_le _, by omega, HK0, HXc, HS, HO, HB⟩
          case round =>
            clear HXc HS HO HB HK0
            obtain ⟨k, b, rfl, rfl, hk, hgk, HK0, HXc, HS, HO, HB⟩ := hrel
            by_cases hltk : k < out.length
            · have z1 : (k : Int) < (out.length : Int) := by omega
              have z0 : 0 ≤ (k : Int) := by omega
              have m2 : out.length - (k + 1) < out.length - k := by omega
              have e1 : wrap64 ((k : Int) + 1) = ((k + 1 : Nat) : Int) := lk_add k (by have := LMo.out; omega)
              have hK := HK0.out
              rw [kp_drop hltk] at hK
              cases b with
              | false =>
                have HK2 := Aside0.mk ((if_neg (by decide)).symm.trans hK)
                have E1 := Aside0.mk e1
                have M2 := Aside0.mk m2
                clear hK HK0 e1 m2
                replace z1 := eq_true z1
                go_wp2_with fail
                refine wq_region (by kernel_rfl) (by kernel_rfl) ?_
                iterate 19 (refine wq_step (fun K hK => ?_); go_simp; (first | (refine hK _ ?_; clear hK K) | (apply Exists.intro; refine ⟨fun _ => ?_, hK _ ?_⟩; (first | rfl | (go_simp; done) | (go_simp; rfl)); clear hK K)))
                refine wq_nil ?_
                intro w1 hb
                have q_HXc : Aside0 (w1.cell? (ad.add (i * 4)) = some (.int .i64 x0) ∧ w1.cell? ⟨(ad.add (i * 4)).block, (ad.add (i * 4)).off + 1, none⟩ = some (.int .i64 x1) ∧ w1.cell? ⟨(ad.add (i * 4)).block, (ad.add (i * 4)).off + 2, none⟩ = some (.int .i64 x2) ∧ w1.cell? ⟨(ad.add (i * 4)).block, (ad.add (i * 4)).off + 3, none⟩ = some (.int .i64 x3)) := Aside0.mk (⟨(hb.cell (World.block_lt_of_cell? _ _ HXc.out.1)).trans HXc.out.1, (hb.cell (World.block_lt_of_cell? _ _ HXc.out.2.1)).trans HXc.out.2.1, (hb.cell (World.block_lt_of_cell? _ _ HXc.out.2.2.1)).trans HXc.out.2.2.1, (hb.cell (World.block_lt_of_cell? _ _ HXc.out.2.2.2)).trans HXc.out.2.2.2⟩)
                have q_HS := Aside0.mk (Kd.C_below HS.out hb)
                have q_HO := Aside0.mk (Kd.R_below HO.out hb)
                have q_HB := Aside0.mk (below_step HB.out hb)
                clear hb HXc HS HO HB
                have HXc := q_HXc
                have HS := q_HS
                have HO := q_HO
                have HB := q_HB
                clear q_HXc q_HS q_HO q_HB
                have e1 := E1.out
                go_wp2_with fail
                go_roundg (out.length - (k + 1))
                case measure => exact Nat.lt_of_lt_of_le M2.out hgk
                case rel => exact ⟨k + 1, false, by first | rfl | (simp; done), by first | rfl | rw [e1], hltk, Nat.le_refl _, HK2, HXc, HS, HO, HB⟩
              | true =>
                replace hK := (if_pos rfl).symm.trans hK
                obtain ⟨ad2, rfl, hy0, hy1, hy2, hy3⟩ := at_T77 (Kd.R_reads' HO.out).2.2 (k : Int) z0 z1
                unfold rd_T77 at hy0 hy1 hy2 hy3
                rw [Int.toNat_natCast] at hy0 hy1 hy2 hy3
                generalize out.getD k z77 = y at hy0 hy1 hy2 hy3 hK
                obtain ⟨y0, ⟨y1, y2⟩, y3⟩ := y
                dsimp only at hy0 hy1 hy2 hy3 hK
                obtain ⟨t, hfar, hK⟩ := Option.bind_eq_some_iff.mp hK
                have hY1 := fun (d : Nat) (os : Array Obj) => lkcell hy1 d os
                have hY2 := fun (d : Nat) (os : Array Obj) => lkcell hy2 d os
                have hX1 := fun (d : Nat) (os : Array Obj) => lkcell HXc.out.2.1 d os
                have hX2 := fun (d : Nat) (os : Array Obj) => lkcell HXc.out.2.2.1 d os
                have HFAR := Aside0.mk hfar
                have E1 := Aside0.mk e1
                have M2 := Aside0.mk m2
                have z2 := eq_true hltk
                replace z1 := eq_true z1
                replace z0 := eq_true z0
                obtain ⟨F, hF⟩ : ∃ F, F = wrap64 (a1 * a1) := ⟨_, rfl⟩
                rw [← hF] at hK
                have f1 : wrap64 (a1 * a1) = F := hF.symm
                have f2 : IntKind.i64.wrap (a1 * a1) = F := (i64_w _).trans f1
                by_cases hc : F ≤ t
                · have HK2 : Aside0 (kpS (wrap64 (a1 * a1)) ⟨x0, ⟨x1, x2⟩, x3⟩ (out.drop (k + 1)) true = some b0) := ⟨by rw [f1]; rw [decide_eq_true hc] at hK; exact hK⟩
                  have c1 := eq_true hc
                  clear hK HK0 e1 m2 hfar hy0 hy1 hy2 hy3 hF hc
                  go_wp2_with fail
                  refine wq_region (by kernel_rfl) (by kernel_rfl) ?_
                  iterate 19 (refine wq_step (fun K hK => ?_); go_simp; (first | (refine hK _ ?_; clear hK K) | (apply Exists.intro; refine ⟨fun _ => ?_, hK _ ?_⟩; (first | rfl | (go_simp; done) | (go_simp; rfl) | exact qc (fun W => spec_FarSquared.calls _ _ _ _ _ W HFAR.out) _ _); clear hK K)))
                  refine wq_nil ?_
                  intro w1 hb
                  have q_HXc : Aside0 (w1.cell? (ad.add (i * 4)) = some (.int .i64 x0) ∧ w1.cell? ⟨(ad.add (i * 4)).block, (ad.add (i * 4)).off + 1, none⟩ = some (.int .i64 x1) ∧ w1.cell? ⟨(ad.add (i * 4)).block, (ad.add (i * 4)).off + 2, none⟩ = some (.int .i64 x2) ∧ w1.cell? ⟨(ad.add (i * 4)).block, (ad.add (i * 4)).off + 3, none⟩ = some (.int .i64 x3)) := Aside0.mk (⟨(hb.cell (World.block_lt_of_cell? _ _ HXc.out.1)).trans HXc.out.1, (hb.cell (World.block_lt_of_cell? _ _ HXc.out.2.1)).trans HXc.out.2.1, (hb.cell (World.block_lt_of_cell? _ _ HXc.out.2.2.1)).trans HXc.out.2.2.1, (hb.cell (World.block_lt_of_cell? _ _ HXc.out.2.2.2)).trans HXc.out.2.2.2⟩)
                  have q_HS := Aside0.mk (Kd.C_below HS.out hb)
                  have q_HO := Aside0.mk (Kd.R_below HO.out hb)
                  have q_HB := Aside0.mk (below_step HB.out hb)
                  clear hb HXc HS HO HB
                  have HXc := q_HXc
                  have HS := q_HS
                  have HO := q_HO
                  have HB := q_HB
                  clear q_HXc q_HS q_HO q_HB
                  clear f1 f2 c1
                  have e1 := E1.out
                  go_wp2_with fail
                  go_roundg (out.length - (k + 1))
                  case measure => exact Nat.lt_of_lt_of_le M2.out hgk
                  case rel => exact ⟨k + 1, true, by first | rfl | (simp; done), by first | rfl | rw [e1], hltk, Nat.le_refl _, HK2, HXc, HS, HO, HB⟩
                · have HK2 : Aside0 (kpS (wrap64 (a1 * a1)) ⟨x0, ⟨x1, x2⟩, x3⟩ (out.drop (k + 1)) false = some b0) := ⟨by rw [f1]; rw [decide_eq_false hc] at hK; exact hK⟩
                  have c1 := eq_false hc
                  clear hK HK0 e1 m2 hfar hy0 hy1 hy2 hy3 hF hc
                  go_wp2_with fail
                  refine wq_region (by kernel_rfl) (by kernel_rfl) ?_
                  iterate 19 (refine wq_step (fun K hK => ?_); go_simp; (first | (refine hK _ ?_; clear hK K) | (apply Exists.intro; refine ⟨fun _ => ?_, hK _ ?_⟩; (first | rfl | (go_simp; done) | (go_simp; rfl) | exact qc (fun W => spec_FarSquared.calls _ _ _ _ _ W HFAR.out) _ _); clear hK K)))
                  refine wq_nil ?_
                  intro w1 hb
                  have q_HXc : Aside0 (w1.cell? (ad.add (i * 4)) = some (.int .i64 x0) ∧ w1.cell? ⟨(ad.add (i * 4)).block, (ad.add (i * 4)).off + 1, none⟩ = some (.int .i64 x1) ∧ w1.cell? ⟨(ad.add (i * 4)).block, (ad.add (i * 4)).off + 2, none⟩ = some (.int .i64 x2) ∧ w1.cell? ⟨(ad.add (i * 4)).block, (ad.add (i * 4)).off + 3, none⟩ = some (.int .i64 x3)) := Aside0.mk (⟨(hb.cell (World.block_lt_of_cell? _ _ HXc.out.1)).trans HXc.out.1, (hb.cell (World.block_lt_of_cell? _ _ HXc.out.2.1)).trans HXc.out.2.1, (hb.cell (World.block_lt_of_cell? _ _ HXc.out.2.2.1)).trans HXc.out.2.2.1, (hb.cell (World.block_lt_of_cell? _ _ HXc.out.2.2.2)).trans HXc.out.2.2.2⟩)
                  have q_HS := Aside0.mk (Kd.C_below HS.out hb)
                  have q_HO := Aside0.mk (Kd.R_below HO.out hb)
                  have q_HB := Aside0.mk (below_step HB.out hb)
                  clear hb HXc HS HO HB
                  have HXc := q_HXc
                  have HS := q_HS
                  have HO := q_HO
                  have HB := q_HB
                  clear q_HXc q_HS q_HO q_HB
                  clear f1 f2 c1
                  have e1 := E1.out
                  go_wp2_with fail
                  go_roundg (out.length - (k + 1))
                  case measure => exact Nat.lt_of_lt_of_le M2.out hgk
                  case rel => exact ⟨k + 1, false, by first | rfl | (simp; done), by first | rfl | rw [e1], hltk, Nat.le_refl _, HK2, HXc, HS, HO, HB⟩
            · have ek : k = out.length := by omega
              subst ek
              have z1 : ((out.length : Int) < (out.length : Int)) = False := eq_false (by omega)
              have hK := HK0.out
              rw [List.drop_length, kpS] at hK
              obtain rfl := Option.some.inj hK
              clear hK HK0
              go_wp2_with fail
              go_meet
              case rel => exact ⟨rfl, HXc, HS, HO, HB⟩
        case rest =>
          clear HXc HS HO HB HK0
          obtain ⟨rfl, HXc, HS, HO, HB⟩ := hcut
          have e0 := E0.out
          cases b0 with
          | false =>
            have HX3 := Aside0.mk (show keptS (wrap64 (a1 * a1)) (L.drop (i + 1)) out = some r from HX2.out)
            clear HX2
            go_wp2_with fail
            go_roundg (L.length - (i + 1))
            case measure => exact Nat.lt_of_lt_of_le M1.out hg
            case rel => exact ⟨i + 1, out, by first | rfl | rw [e0], hlt, Nat.le_refl _, HX3, ⟨by have := HL.out; omega⟩, HS, HO, HB⟩
          | true =>
            have HX3 := Aside0.mk (show keptS (wrap64 (a1 * a1)) (L.drop (i + 1)) (out ++ [⟨x0, ⟨x1, x2⟩, x3⟩]) = some r from HX2.out)
            clear HX2
            obtain ⟨p0, p1, p2, p3⟩ := HXc.out
            go_wp2_with (first | ((with_reducible refine gate_dst (N := 89) rfl ?_); (try (refine gate_guard (by rfl) ?_; dsimp only)); refine Kd.R_lit k77 _ 77 ?hg (N := 89) ?hd (xs := ([⟨x0, ⟨x1, x2⟩, x3⟩] : List S77)) (inner := [.int .i64 x0, .int .i64 x1, .int .i64 x2, .int .i64 x3]) (ok := fun _ => True) (okp := fun _ => True) ?hr ?hp (fun _ hk => hk) trivial (Below.refl _ _) (Nat.le_refl _) (by simp) ?_; (case hd => rfl); (case hg => rfl); (case hr => first | (go_simp; done) | (go_simp; rfl)); (case hp => exact (Reps.c4 (show Kd.M k77 _ _ _ (⟨x0, ⟨x1, x2⟩, x3⟩ : S77) [.int .i64 x0, .int .i64 x1, .int .i64 x2, .int .i64 x3] from k77_mkM _ _ _ _) (Reps.none _ _))); intro v11 w11 ho hb hg_ hnew_; clear hg_ hnew_; have n0_ := Aside0.mk (Kd.R_below HO.out hb); have n1_ := Aside0.mk (below_step HB.out hb); have n2_ := Aside0.mk (Kd.C_below HS.out hb); have HN := Aside0.mk ho; clear HO HB HS ho hb p0 p1 p2 p3; have HO := n0_; have HB := n1_; have HS := n2_; clear n0_ n1_ n2_; obtain ⟨Ax, cx, ex⟩ := Kd.R_slice HN.out; subst ex) | ((with_reducible refine gate_builtin (b := .append) (xs := #[.tmp 84, .tmp 89]) rfl ?_); (try (refine gate_guard (by rfl) ?_; dsimp only)); at_builtin; refine Kd.R_append_rows k77 (w0 := W0) W0.heap.size rfl (.tmp 84) (.tmp 89) 70 77 (.agg #[(.int .i64 0), (.int .i64 0), (.int .i64 0), (.int .i64 0)]) 32 rfl Tryz.underlying70 info77 rfl (by decide) (by omega) (.slice Ao out.length co) out [⟨x0, ⟨x1, x2⟩, x3⟩] _ _ _ (fun _ => True) (fun _ => False) rfl rfl HO.out (Kd.R_reads' HN.out).2.2 (fun _ _ h => h) (fun _ h => h.elim) (fun _ _ => trivial) HB.out (below_size HB.out) (by have := LMo.out; simp; omega) ?_; intro v12 w12 ho hb hg_ hat_; have n2_ := Aside0.mk (Kd.C_below HSC.out hb); clear HO HB HS HN; have HO := Aside0.mk ho; have HB := Aside0.mk hb; have HS := n2_; clear n2_ ho hb hg_ hat_))
            go_roundg (L.length - (i + 1))
            case measure => exact Nat.lt_of_lt_of_le M1.out hg
            case rel => exact ⟨i + 1, out ++ [⟨x0, ⟨x1, x2⟩, x3⟩], by first | rfl | rw [e0], hlt, Nat.le_refl _, HX3, ⟨by have := HL.out; simp; omega⟩, HS, HO, HB⟩
      · have ei : i = L.length := by omega
        subst ei
        have q1 : ((L.length : Int) < (L.length : Int)) = False := eq_false (by omega)
        have hX := HX.out
        rw [List.drop_length, keptS] at hX
        obtain rfl := Option.some.inj hX
        clear hX HX
        go_wp2_with fail
        go_ret
        exact ⟨_, rfl, Kd.R_lower HO.out (below_size HBW.out), below_step HBW.out HB.out⟩
def spec_l14Kept.toH (t : List S77) : HL eΓ [.l 77 (.st .s77)] := (t, ())
def spec_l14Kept.run (k : Nat) (h : HL eΓ [.l 77 (.st .s77), .i .i64]) : Option (HL eΓ [.l 77 (.st .s77)]) := (spec_l14Kept.f (h.1 : List S77) (h.2.1 : Int)).map spec_l14Kept.toH
def spec_l14Kept.spec : Spc env := ⟨44, [.l 77 (.st .s77), .i .i64], [.l 77 (.st .s77)], spec_l14Kept.run⟩
def spec_l14Kept.ap {R : Type} (k : Nat) (h0 : List S77) (h1 : Int) (K : (List S77) → Option R) : Option R := (spec_l14Kept.run k (h0, h1, ())).bind fun r => K (r.1 : List S77)
theorem spec_l14Kept.ap_of {R : Type} {k : Nat} {h0 : List S77} {h1 : Int} {r0 : List S77} {K : (List S77) → Option R} (h : spec_l14Kept.run k (h0, h1, ()) = some (r0, ())) : spec_l14Kept.ap k h0 h1 K = K r0 := by unfold spec_l14Kept.ap; rw [h]; rfl
theorem spec_l14Kept.go {l0 : List S77} {a1 : Int} {t} (h : spec_l14Kept.f l0 a1 = some t) (K : Nat) : spec_l14Kept.run K (l0, a1, ()) = some (spec_l14Kept.toH t) := by
  show Option.map _ (spec_l14Kept.f l0 a1) = _
  rw [h]; rfl
theorem spec_l14Kept.snd : Snd env spec_l14Kept.spec := ⟨⟨Tryz.f44, by kernel_rfl, by kernel_rfl, by kernel_rfl⟩, fun k h r he w us hA => by
  obtain ⟨t, ht, rfl⟩ := Option.map_eq_some_iff.1 (show (spec_l14Kept.f (h.1 : List S77) (h.2.1 : Int)).map spec_l14Kept.toH = some r from he)
  match us, hA with
  | [u0, u1], ⟨q0, q1, _⟩ =>
  obtain ⟨A0, c0, e0, l0, g0⟩ := q0
  obtain rfl := List.singleton_inj.1 e0
  obtain rfl := List.singleton_inj.1 (show [u1] = [Value.int .i64 (h.2.1 : Int)] from q1)
  refine (spec_l14Kept.calls (w := w) (h := ht) (hr0 := g0) (hc0 := l0)).mono ?_
  rintro e w' ⟨v0_, he, hR, hw⟩
  exact ⟨_, he, hw, [v0_], [fun _ => True], rfl, ⟨⟨v0_, rfl, hR⟩, trivial⟩, by simp [DJ]⟩⟩
def spec_ArePlaces.Fs : List (Spc env) := [spec_l1In.spec, spec_IsPoint.spec]
def spec_ArePlaces.fin : St eΓ → Option (HL eΓ [.b]) := finR env Tryz.f112.results.toList [.b]
def spec_ArePlaces.cut : Nat → Option (List (Lv SC)) := lk [(2, [⟨0, none, false⟩, ⟨3, none, false⟩])]
def spec_ArePlaces.ret (r0 : Bool) : Option (HL eΓ [.b]) := some (r0, ())
def spec_ArePlaces.p2 (k : Nat) (x3 : Int) (x0 : List S77) : Option (HL eΓ [.b]) := evM env spec_ArePlaces.Fs Tryz.f112.ntmps spec_ArePlaces.fin spec_ArePlaces.cut k [.code (sub_ [1, 0, 1, 0, 0, 0, 0] (bodyOf Tryz.f112)), .code (sub_ [1, 0, 1, 0, 0, 0, 1] (bodyOf Tryz.f112)), .code (sub_ [1, 0, 1, 0, 0, 1] (bodyOf Tryz.f112)), .lp (sub_ [1, 0, 1, 0, 0] (bodyOf Tryz.f112)), .blk 0, .code (sub_ [1, 1] (bodyOf Tryz.f112))] (mkSt [(0, .c (.sl 0)), (3, .c (.v (.int .i64 x3)))] [.row .ro 77 (.st .s77) x0])
theorem spec_ArePlaces.e2 (k : Nat) (x3 : Int) (x0 : List S77) : spec_ArePlaces.p2 (k + 1) x3 x0 = if x3 < (x0.length : Int) then (if 0 ≤ x3 then (if x3 < (x0.length : Int) then (spec_l1In.ap k ((rd_T77 x0 x3).f0) 1 99 fun r1 => if (!r1) = true then (spec_ArePlaces.ret false) else (if 0 ≤ x3 then (if x3 < (x0.length : Int) then (spec_IsPoint.ap k (⟨(rd_T77 x0 x3).f1.f0, (rd_T77 x0 x3).f1.f1⟩ : S75) fun r2 => if (!r2) = true then (spec_ArePlaces.ret false) else (if 0 ≤ x3 then (if x3 < (x0.length : Int) then (spec_l1In.ap k ((rd_T77 x0 x3).f2) 0 9 fun r3 => if (!r3) = true then (spec_ArePlaces.ret false) else (if x3 > 0 then (if 0 ≤ (wrap64 (x3 - 1)) then (if (wrap64 (x3 - 1)) < (x0.length : Int) then (if 0 ≤ x3 then (if x3 < (x0.length : Int) then (if ((rd_T77 x0 (wrap64 (x3 - 1))).f0) ≥ ((rd_T77 x0 x3).f0) then (spec_ArePlaces.ret false) else (spec_ArePlaces.p2 k (wrap64 (x3 + 1)) x0)) else none) else none) else none) else none) else (spec_ArePlaces.p2 k (wrap64 (x3 + 1)) x0))) else none) else none)) else none) else none)) else none) else none) else (spec_ArePlaces.ret (decide ((x0.length : Int) ≤ 16))) := by kernel_rfl
def spec_ArePlaces.run (k : Nat) (h : HL eΓ [.l 77 (.st .s77)]) : Option (HL eΓ [.b]) := evF env spec_ArePlaces.Fs Tryz.f112 spec_ArePlaces.cut [.l 77 (.st .s77)] [.b] k h
theorem spec_ArePlaces.ef (k : Nat) (h0 : List S77) : spec_ArePlaces.run k (h0, ()) = spec_ArePlaces.p2 k 0 h0 := by kernel_rfl
def spec_ArePlaces.toH (t : Bool) : HL eΓ [.b] := (t, ())
def spec_ArePlaces.spec : Spc env := ⟨112, [.l 77 (.st .s77)], [.b], spec_ArePlaces.run⟩
def spec_ArePlaces.ap {R : Type} (k : Nat) (h0 : List S77) (K : Bool → Option R) : Option R := (spec_ArePlaces.run k (h0, ())).bind fun r => K (r.1 : Bool)
theorem spec_ArePlaces.ap_of {R : Type} {k : Nat} {h0 : List S77} {r0 : Bool} {K : Bool → Option R} (h : spec_ArePlaces.run k (h0, ()) = some (r0, ())) : spec_ArePlaces.ap k h0 K = K r0 := by unfold spec_ArePlaces.ap; rw [h]; rfl
theorem spec_ArePlaces.snd : Snd env spec_ArePlaces.spec := evF_snd env_ok (sndC spec_l1In.snd (sndC spec_IsPoint.snd (sndN)))
attribute [local irreducible] spec_ArePlaces.run
theorem spec_ArePlaces.rt (a0 : Bool) : spec_ArePlaces.ret a0 = some (spec_ArePlaces.toH (a0)) := rfl
theorem spec_ArePlaces.br (n : Nat) : (∀ K, n ≤ K → ∀ (x3 : Int) (x0 : List S77) t, spec_ArePlaces.l0 n x0 x3 = some t → spec_ArePlaces.p2 K x3 x0 = some (spec_ArePlaces.toH t)) := by
  induction n using Nat.strongRecOn with
  | _ n ih =>
  intro K hK x3 x0 t h
  all_goals (rcases n with _ | k)
  all_goals (try (exact nos h))
  all_goals (obtain ⟨K, rfl⟩ : ∃ q, K = q + 1 := ⟨K - 1, by omega⟩)
  all_goals (first | rw [spec_ArePlaces.e2])
  all_goals (simp only [spec_ArePlaces.l0] at h)
  repeat' (with_reducible first
   | exact nos h
   | (cases some_inj h; exact spec_ArePlaces.rt _)
   | exact (ih _ (by omega)) _ (by omega) _ _ _ h
   | (simp only [Option.bind_some] at h)
   | (refine ite_by h ?_ ?_ <;> (intro hc h; (try simp only [nrm] at hc)))
   | refine itT ?_
   | refine itF ?_
   | (refine bind_by h (fun t ht h => ?_); (first | refine (spec_l1In.ap_of (spec_l1In.go ht _)).trans ?_ | refine (spec_IsPoint.ap_of (spec_IsPoint.go ht _)).trans ?_); (try dsimp only at h ⊢))
   | (simp only [nr2] at h ⊢)
   | (exfalso; omega))
theorem spec_ArePlaces.go {k : Nat} {l0 : List S77} {t} (h : spec_ArePlaces.f k l0 = some t) (K : Nat) (hK : k ≤ K) : spec_ArePlaces.run K (l0, ()) = some (spec_ArePlaces.toH t) := by
  rw [spec_ArePlaces.ef]
  (try dsimp only)
  unfold spec_ArePlaces.f at h
  repeat' (with_reducible first
   | exact nos h
   | (cases some_inj h; exact spec_ArePlaces.rt _)
   | exact (spec_ArePlaces.br _) _ (by omega) _ _ _ h
   | (simp only [Option.bind_some] at h)
   | (refine ite_by h ?_ ?_ <;> (intro hc h; (try simp only [nrm] at hc)))
   | refine itT ?_
   | refine itF ?_
   | (refine bind_by h (fun t ht h => ?_); (first | refine (spec_l1In.ap_of (spec_l1In.go ht _)).trans ?_ | refine (spec_IsPoint.ap_of (spec_IsPoint.go ht _)).trans ?_); (try dsimp only at h ⊢))
   | (simp only [nr2] at h ⊢)
   | (exfalso; omega))
def spec_l14Put.toH (t : List Int) : HL eΓ [.l 3 (.i .i64)] := (t, ())
def spec_l14Put.run (k : Nat) (h : HL eΓ [.l 3 (.i .i64), .i .i64]) : Option (HL eΓ [.l 3 (.i .i64)]) := (spec_l14Put.f k (h.1 : List Int) (h.2.1 : Int)).map spec_l14Put.toH
def spec_l14Put.spec : Spc env := ⟨113, [.l 3 (.i .i64), .i .i64], [.l 3 (.i .i64)], spec_l14Put.run⟩
def spec_l14Put.ap {R : Type} (k : Nat) (h0 : List Int) (h1 : Int) (K : (List Int) → Option R) : Option R := (spec_l14Put.run k (h0, h1, ())).bind fun r => K (r.1 : List Int)
theorem spec_l14Put.ap_of {R : Type} {k : Nat} {h0 : List Int} {h1 : Int} {r0 : List Int} {K : (List Int) → Option R} (h : spec_l14Put.run k (h0, h1, ()) = some (r0, ())) : spec_l14Put.ap k h0 h1 K = K r0 := by unfold spec_l14Put.ap; rw [h]; rfl
theorem spec_l14Put.go {k : Nat} {l0 : List Int} {a1 : Int} {t} (h : spec_l14Put.f k l0 a1 = some t) (K : Nat) (hk : k ≤ K) : spec_l14Put.run K (l0, a1, ()) = some (spec_l14Put.toH t) := by
  show Option.map _ (spec_l14Put.f K l0 a1) = _
  rw [leo_le (f := fun k => spec_l14Put.f k l0 a1) (fun k => spec_l14Put.mono l0 a1 k) hk h]; rfl
theorem spec_l14Put.snd : Snd env spec_l14Put.spec := ⟨⟨Tryz.f113, by kernel_rfl, by kernel_rfl, by kernel_rfl⟩, fun k h r he w us hA => by
  obtain ⟨t, ht, rfl⟩ := Option.map_eq_some_iff.1 (show (spec_l14Put.f k (h.1 : List Int) (h.2.1 : Int)).map spec_l14Put.toH = some r from he)
  match us, hA with
  | [u0, u1], ⟨q0, q1, _⟩ =>
  obtain ⟨A0, c0, e0, l0, g0⟩ := q0
  obtain rfl := List.singleton_inj.1 e0
  obtain rfl := List.singleton_inj.1 (show [u1] = [Value.int .i64 (h.2.1 : Int)] from q1)
  refine (spec_l14Put.calls (w := w) (h := ht) (hr0 := g0) (hc0 := l0)).mono ?_
  rintro e w' ⟨v0_, he, hR, hw⟩
  exact ⟨_, he, hw, [v0_], [fun _ => True], rfl, ⟨⟨v0_, rfl, hR⟩, trivial⟩, by simp [DJ]⟩⟩
def spec_ThinPlaces.Fs : List (Spc env) := [spec_ArePlaces.spec, spec_l1In.spec, spec_l14Kept.spec, spec_l14Put.spec]
def spec_ThinPlaces.fin : St eΓ → Option (HL eΓ [.l 3 (.i .i64)]) := finR env Tryz.f64.results.toList [.l 3 (.i .i64)]
def spec_ThinPlaces.cut : Nat → Option (List (Lv SC)) := lk [(6, [⟨5, none, false⟩, ⟨6, none, false⟩, ⟨7, none, false⟩])]
def spec_ThinPlaces.ret (r0 : List Int) : Option (HL eΓ [.l 3 (.i .i64)]) := some (r0, ())
def spec_ThinPlaces.p6 (k : Nat) (x7 : Int) (x5 : List Int) (x6 : List S77) : Option (HL eΓ [.l 3 (.i .i64)]) := evM env spec_ThinPlaces.Fs Tryz.f64.ntmps spec_ThinPlaces.fin spec_ThinPlaces.cut k [.code (sub_ [1, 1, 1, 1, 0, 1, 0, 0, 0, 0] (bodyOf Tryz.f64)), .code (sub_ [1, 1, 1, 1, 0, 1, 0, 0, 0, 1] (bodyOf Tryz.f64)), .code (sub_ [1, 1, 1, 1, 0, 1, 0, 0, 1] (bodyOf Tryz.f64)), .lp (sub_ [1, 1, 1, 1, 0, 1, 0, 0] (bodyOf Tryz.f64)), .blk 0, .code (sub_ [1, 1, 1, 1, 1] (bodyOf Tryz.f64))] (mkSt [(5, .c (.sl 0)), (6, .c (.sl 1)), (7, .c (.v (.int .i64 x7)))] [.row .own 3 (.i .i64) x5, .row .own 77 (.st .s77) x6])
theorem spec_ThinPlaces.e6 (k : Nat) (x7 : Int) (x5 : List Int) (x6 : List S77) : spec_ThinPlaces.p6 (k + 1) x7 x5 x6 = if x7 < (x6.length : Int) then (if 0 ≤ x7 then (if x7 < (x6.length : Int) then (spec_l14Put.ap k x5 ((rd_T77 x6 x7).f0) fun r1 => spec_ThinPlaces.p6 k (wrap64 (x7 + 1)) r1 x6) else none) else none) else (spec_ThinPlaces.ret x5) := by kernel_rfl
def spec_ThinPlaces.run (k : Nat) (h : HL eΓ [.l 77 (.st .s77), .i .i64]) : Option (HL eΓ [.l 3 (.i .i64)]) := evF env spec_ThinPlaces.Fs Tryz.f64 spec_ThinPlaces.cut [.l 77 (.st .s77), .i .i64] [.l 3 (.i .i64)] k h
theorem spec_ThinPlaces.ef (k : Nat) (h0 : List S77) (h1 : Int) : spec_ThinPlaces.run k (h0, h1, ()) = spec_ArePlaces.ap k h0 fun r1 => if (!r1) = true then (spec_ThinPlaces.ret ([] : List Int)) else (spec_l1In.ap k h1 0 200 fun r2 => if (!r2) = true then (spec_ThinPlaces.ret ([] : List Int)) else (spec_l14Kept.ap k h0 h1 fun r3 => spec_ThinPlaces.p6 k 0 ([] : List Int) r3)) := by kernel_rfl
def spec_ThinPlaces.toH (t : List Int) : HL eΓ [.l 3 (.i .i64)] := (t, ())
def spec_ThinPlaces.spec : Spc env := ⟨64, [.l 77 (.st .s77), .i .i64], [.l 3 (.i .i64)], spec_ThinPlaces.run⟩
def spec_ThinPlaces.ap {R : Type} (k : Nat) (h0 : List S77) (h1 : Int) (K : (List Int) → Option R) : Option R := (spec_ThinPlaces.run k (h0, h1, ())).bind fun r => K (r.1 : List Int)
theorem spec_ThinPlaces.ap_of {R : Type} {k : Nat} {h0 : List S77} {h1 : Int} {r0 : List Int} {K : (List Int) → Option R} (h : spec_ThinPlaces.run k (h0, h1, ()) = some (r0, ())) : spec_ThinPlaces.ap k h0 h1 K = K r0 := by unfold spec_ThinPlaces.ap; rw [h]; rfl
theorem spec_ThinPlaces.snd : Snd env spec_ThinPlaces.spec := evF_snd env_ok (sndC spec_ArePlaces.snd (sndC spec_l1In.snd (sndC spec_l14Kept.snd (sndC spec_l14Put.snd (sndN)))))
attribute [local irreducible] spec_ThinPlaces.run
theorem spec_ThinPlaces.rt (a0 : List Int) : spec_ThinPlaces.ret a0 = some (spec_ThinPlaces.toH (a0)) := rfl
theorem spec_ThinPlaces.br (n : Nat) : (∀ K, n ≤ K → ∀ (x7 : Int) (x5 : List Int) (x6 : List S77) t, spec_ThinPlaces.l0 n x5 x6 x7 = some t → spec_ThinPlaces.p6 K x7 x5 x6 = some (spec_ThinPlaces.toH t)) := by
  induction n using Nat.strongRecOn with
  | _ n ih =>
  intro K hK x7 x5 x6 t h
  all_goals (rcases n with _ | k)
  all_goals (try (exact nos h))
  all_goals (obtain ⟨K, rfl⟩ : ∃ q, K = q + 1 := ⟨K - 1, by omega⟩)
  all_goals (first | rw [spec_ThinPlaces.e6])
  all_goals (simp only [spec_ThinPlaces.l0] at h)
  repeat' (with_reducible first
   | exact nos h
   | (cases some_inj h; exact spec_ThinPlaces.rt _)
   | exact (ih _ (by omega)) _ (by omega) _ _ _ _ h
   | ((have q : spec_ThinPlaces.j0 k _ _ _ _ = some _ := h; clear q); rcases k with _ | k <;> simp only [spec_ThinPlaces.j0, reduceCtorEq] at h)
   | (simp only [Option.bind_some] at h)
   | (refine ite_by h ?_ ?_ <;> (intro hc h; (try simp only [nrm] at hc)))
   | refine itT ?_
   | refine itF ?_
   | (refine bind_by h (fun t ht h => ?_); (first | refine (spec_ArePlaces.ap_of (spec_ArePlaces.go ht _ (by omega))).trans ?_ | refine (spec_l1In.ap_of (spec_l1In.go ht _)).trans ?_ | refine (spec_l14Kept.ap_of (spec_l14Kept.go ht _)).trans ?_ | refine (spec_l14Put.ap_of (spec_l14Put.go ht _ (by omega))).trans ?_); (try dsimp only at h ⊢))
   | (simp only [nr2] at h ⊢)
   | (exfalso; omega))
theorem spec_ThinPlaces.go {k : Nat} {l0 : List S77} {a1 : Int} {t} (h : spec_ThinPlaces.f k l0 a1 = some t) (K : Nat) (hK : k ≤ K) : spec_ThinPlaces.run K (l0, a1, ()) = some (spec_ThinPlaces.toH t) := by
  rw [spec_ThinPlaces.ef]
  (try dsimp only)
  unfold spec_ThinPlaces.f at h
  repeat' (with_reducible first
   | exact nos h
   | (cases some_inj h; exact spec_ThinPlaces.rt _)
   | exact (spec_ThinPlaces.br _) _ (by omega) _ _ _ _ h
   | ((have q : spec_ThinPlaces.j0 k _ _ _ _ = some _ := h; clear q); rcases k with _ | k <;> simp only [spec_ThinPlaces.j0, reduceCtorEq] at h)
   | (simp only [Option.bind_some] at h)
   | (refine ite_by h ?_ ?_ <;> (intro hc h; (try simp only [nrm] at hc)))
   | refine itT ?_
   | refine itF ?_
   | (refine bind_by h (fun t ht h => ?_); (first | refine (spec_ArePlaces.ap_of (spec_ArePlaces.go ht _ (by omega))).trans ?_ | refine (spec_l1In.ap_of (spec_l1In.go ht _)).trans ?_ | refine (spec_l14Kept.ap_of (spec_l14Kept.go ht _)).trans ?_ | refine (spec_l14Put.ap_of (spec_l14Put.go ht _ (by omega))).trans ?_); (try dsimp only at h ⊢))
   | (simp only [nr2] at h ⊢)
   | (exfalso; omega))
def spec_PlacesOf.Fs : List (Spc env) := [spec_IsSource.spec]
def spec_PlacesOf.fin : St eΓ → Option (HL eΓ [.l 77 (.st .s77)]) := finR env Tryz.f65.results.toList [.l 77 (.st .s77)]
def spec_PlacesOf.cut : Nat → Option (List (Lv SC)) := lk [(3, [⟨0, none, false⟩, ⟨3, none, false⟩, ⟨4, none, false⟩])]
def spec_PlacesOf.ret (r0 : List S77) : Option (HL eΓ [.l 77 (.st .s77)]) := some (r0, ())
def spec_PlacesOf.p3 (k : Nat) (x4 : Int) (x0 : List S59) (x3 : List S77) : Option (HL eΓ [.l 77 (.st .s77)]) := evM env spec_PlacesOf.Fs Tryz.f65.ntmps spec_PlacesOf.fin spec_PlacesOf.cut k [.code (sub_ [1, 1, 0, 1, 0, 0, 0, 0] (bodyOf Tryz.f65)), .code (sub_ [1, 1, 0, 1, 0, 0, 0, 1] (bodyOf Tryz.f65)), .code (sub_ [1, 1, 0, 1, 0, 0, 1] (bodyOf Tryz.f65)), .lp (sub_ [1, 1, 0, 1, 0, 0] (bodyOf Tryz.f65)), .blk 0, .code (sub_ [1, 1, 1] (bodyOf Tryz.f65))] (mkSt [(0, .c (.sl 0)), (3, .c (.sl 1)), (4, .c (.v (.int .i64 x4)))] [.row .ro 59 (.st .s59) x0, .row .own 77 (.st .s77) x3])
theorem spec_PlacesOf.e3 (k : Nat) (x4 : Int) (x0 : List S59) (x3 : List S77) : spec_PlacesOf.p3 (k + 1) x4 x0 x3 = if x4 < (x0.length : Int) then (spec_IsSource.ap k x0 fun r1 => if r1 = true then (if 0 ≤ x4 then (if x4 < (x0.length : Int) then (if ((rd_T59 x0 x4).f1) = 1 then (if 0 ≤ x4 then (if x4 < (x0.length : Int) then (if 0 ≤ x4 then (if x4 < (x0.length : Int) then (if 0 < (((rd_T59 x0 x4).f4).length : Int) then (if 0 ≤ x4 then (if x4 < (x0.length : Int) then (if (x3.length + 1) * 32 ≤ 140737488355328 then (spec_PlacesOf.p3 k (wrap64 (x4 + 1)) x0 (x3 ++ [(⟨(rd_T59 x0 x4).f0, (⟨(rd_T75 ((rd_T59 x0 x4).f4) 0).f0, (rd_T75 ((rd_T59 x0 x4).f4) 0).f1⟩ : S75), (rd_T59 x0 x4).f2⟩ : S77)])) else none) else none) else none) else none) else none) else none) else none) else none) else (spec_PlacesOf.p3 k (wrap64 (x4 + 1)) x0 x3)) else none) else none) else (spec_PlacesOf.ret x3)) else (spec_PlacesOf.ret x3) := by kernel_rfl
def spec_PlacesOf.run (k : Nat) (h : HL eΓ [.l 59 (.st .s59)]) : Option (HL eΓ [.l 77 (.st .s77)]) := evF env spec_PlacesOf.Fs Tryz.f65 spec_PlacesOf.cut [.l 59 (.st .s59)] [.l 77 (.st .s77)] k h
theorem spec_PlacesOf.ef (k : Nat) (h0 : List S59) : spec_PlacesOf.run k (h0, ()) = spec_PlacesOf.p3 k 0 h0 ([] : List S77) := by kernel_rfl
def spec_PlacesOf.toH (t : (List (S77))) : HL eΓ [.l 77 (.st .s77)] := (t, ())
def spec_PlacesOf.spec : Spc env := ⟨65, [.l 59 (.st .s59)], [.l 77 (.st .s77)], spec_PlacesOf.run⟩
def spec_PlacesOf.ap {R : Type} (k : Nat) (h0 : List S59) (K : (List S77) → Option R) : Option R := (spec_PlacesOf.run k (h0, ())).bind fun r => K (r.1 : List S77)
theorem spec_PlacesOf.ap_of {R : Type} {k : Nat} {h0 : List S59} {r0 : List S77} {K : (List S77) → Option R} (h : spec_PlacesOf.run k (h0, ()) = some (r0, ())) : spec_PlacesOf.ap k h0 K = K r0 := by unfold spec_PlacesOf.ap; rw [h]; rfl
theorem spec_PlacesOf.snd : Snd env spec_PlacesOf.spec := evF_snd env_ok (sndC spec_IsSource.snd (sndN))
attribute [local irreducible] spec_PlacesOf.run
theorem spec_PlacesOf.rt (a0 : List S77) : spec_PlacesOf.ret a0 = some (spec_PlacesOf.toH (a0)) := rfl
theorem spec_PlacesOf.br (n : Nat) : (∀ K, n ≤ K → ∀ (x4 : Int) (x0 : List S59) (x3 : List S77) t, spec_PlacesOf.l0 n x0 x3 x4 = some t → spec_PlacesOf.p3 K x4 x0 x3 = some (spec_PlacesOf.toH t)) := by
  induction n using Nat.strongRecOn with
  | _ n ih =>
  intro K hK x4 x0 x3 t h
  all_goals (rcases n with _ | k)
  all_goals (try (exact nos h))
  all_goals (obtain ⟨K, rfl⟩ : ∃ q, K = q + 1 := ⟨K - 1, by omega⟩)
  all_goals (first | rw [spec_PlacesOf.e3])
  all_goals (simp only [spec_PlacesOf.l0] at h)
  repeat' (with_reducible first
   | exact nos h
   | (cases some_inj h; exact spec_PlacesOf.rt _)
   | exact (ih _ (by omega)) _ (by omega) _ _ _ _ h
   | ((have q : spec_PlacesOf.j1 k _ _ _ _ = some _ := h; clear q); rcases k with _ | k <;> simp only [spec_PlacesOf.j1, reduceCtorEq] at h)
   | (simp only [Option.bind_some] at h)
   | (refine ite_by h ?_ ?_ <;> (intro hc h; (try simp only [nrm] at hc)))
   | refine itT ?_
   | refine itF ?_
   | (refine bind_by h (fun t ht h => ?_); refine (spec_IsSource.ap_of (spec_IsSource.go ht _ (by omega))).trans ?_; (try dsimp only at h ⊢))
   | (simp only [nr2] at h ⊢)
   | (exfalso; omega))
theorem spec_PlacesOf.go {k : Nat} {l0 : List S59} {t} (h : spec_PlacesOf.f k l0 = some t) (K : Nat) (hK : k ≤ K) : spec_PlacesOf.run K (l0, ()) = some (spec_PlacesOf.toH t) := by
  rw [spec_PlacesOf.ef]
  (try dsimp only)
  unfold spec_PlacesOf.f at h
  repeat' (with_reducible first
   | exact nos h
   | (cases some_inj h; exact spec_PlacesOf.rt _)
   | exact (spec_PlacesOf.br _) _ (by omega) _ _ _ _ h
   | ((have q : spec_PlacesOf.j1 k _ _ _ _ = some _ := h; clear q); rcases k with _ | k <;> simp only [spec_PlacesOf.j1, reduceCtorEq] at h)
   | (simp only [Option.bind_some] at h)
   | (refine ite_by h ?_ ?_ <;> (intro hc h; (try simp only [nrm] at hc)))
   | refine itT ?_
   | refine itF ?_
   | (refine bind_by h (fun t ht h => ?_); refine (spec_IsSource.ap_of (spec_IsSource.go ht _ (by omega))).trans ?_; (try dsimp only at h ⊢))
   | (simp only [nr2] at h ⊢)
   | (exfalso; omega))
def spec_ShownIds.Fs : List (Spc env) := [spec_IsSource.spec, spec_IsLevel.spec, spec_l23Ranked.spec, spec_PlacesOf.spec, spec_ThinPlaces.spec, spec_l14Has.spec]
def spec_ShownIds.fin : St eΓ → Option (HL eΓ [.l 3 (.i .i64)]) := finR env Tryz.f27.results.toList [.l 3 (.i .i64)]
def spec_ShownIds.cut : Nat → Option (List (Lv SC)) := lk [(7, [⟨5, none, false⟩, ⟨6, none, false⟩, ⟨7, none, false⟩, ⟨8, none, false⟩])]
def spec_ShownIds.ret (r0 : List Int) : Option (HL eΓ [.l 3 (.i .i64)]) := some (r0, ())
def spec_ShownIds.p7 (k : Nat) (x8 : Int) (x5 : List Int) (x6 : List S59) (x7 : List Int) : Option (HL eΓ [.l 3 (.i .i64)]) := evM env spec_ShownIds.Fs Tryz.f27.ntmps spec_ShownIds.fin spec_ShownIds.cut k [.code (sub_ [1, 1, 1, 1, 1, 0, 1, 0, 0, 0, 0] (bodyOf Tryz.f27)), .code (sub_ [1, 1, 1, 1, 1, 0, 1, 0, 0, 0, 1] (bodyOf Tryz.f27)), .code (sub_ [1, 1, 1, 1, 1, 0, 1, 0, 0, 1] (bodyOf Tryz.f27)), .lp (sub_ [1, 1, 1, 1, 1, 0, 1, 0, 0] (bodyOf Tryz.f27)), .blk 0, .code (sub_ [1, 1, 1, 1, 1, 1] (bodyOf Tryz.f27))] (mkSt [(5, .c (.sl 0)), (6, .c (.sl 1)), (7, .c (.sl 2)), (8, .c (.v (.int .i64 x8)))] [.row .own 3 (.i .i64) x5, .row .own 59 (.st .s59) x6, .row .own 3 (.i .i64) x7])
theorem spec_ShownIds.e7 (k : Nat) (x8 : Int) (x5 : List Int) (x6 : List S59) (x7 : List Int) : spec_ShownIds.p7 (k + 1) x8 x5 x6 x7 = if x8 < (x6.length : Int) then (if 0 ≤ x8 then (if x8 < (x6.length : Int) then (if ¬ ((rd_T59 x6 x8).f1) = 1 then (if 0 ≤ x8 then (if x8 < (x6.length : Int) then (if (x5.length + 1) * 8 ≤ 140737488355328 then (spec_ShownIds.p7 k (wrap64 (x8 + 1)) (x5 ++ [(rd_T59 x6 x8).f0]) x6 x7) else none) else none) else none) else (if 0 ≤ x8 then (if x8 < (x6.length : Int) then (spec_l14Has.ap k x7 ((rd_T59 x6 x8).f0) fun r1 => if r1 = true then (if 0 ≤ x8 then (if x8 < (x6.length : Int) then (if (x5.length + 1) * 8 ≤ 140737488355328 then (spec_ShownIds.p7 k (wrap64 (x8 + 1)) (x5 ++ [(rd_T59 x6 x8).f0]) x6 x7) else none) else none) else none) else (spec_ShownIds.p7 k (wrap64 (x8 + 1)) x5 x6 x7)) else none) else none)) else none) else none) else (spec_ShownIds.ret x5) := by kernel_rfl
def spec_ShownIds.run (k : Nat) (h : HL eΓ [.l 59 (.st .s59), .st .s46]) : Option (HL eΓ [.l 3 (.i .i64)]) := evF env spec_ShownIds.Fs Tryz.f27 spec_ShownIds.cut [.l 59 (.st .s59), .st .s46] [.l 3 (.i .i64)] k h
theorem spec_ShownIds.ef (k : Nat) (h0 : List S59) (h1 : S46) : spec_ShownIds.run k (h0, h1, ()) = spec_IsSource.ap k h0 fun r1 => if (!r1) = true then (spec_ShownIds.ret ([] : List Int)) else (spec_IsLevel.ap k (⟨h1.f0, h1.f1, h1.f2⟩ : S46) fun r2 => if (!r2) = true then (spec_ShownIds.ret ([] : List Int)) else (spec_l23Ranked.ap k h0 h1.f0 fun r3 => spec_PlacesOf.ap k r3 fun r4 => spec_ThinPlaces.ap k r4 h1.f1 fun r5 => spec_ShownIds.p7 k 0 ([] : List Int) r3 r5)) := by kernel_rfl
def spec_ShownIds.toH (t : List Int) : HL eΓ [.l 3 (.i .i64)] := (t, ())
def spec_ShownIds.spec : Spc env := ⟨27, [.l 59 (.st .s59), .st .s46], [.l 3 (.i .i64)], spec_ShownIds.run⟩
theorem spec_ShownIds.snd : Snd env spec_ShownIds.spec := evF_snd env_ok (sndC spec_IsSource.snd (sndC spec_IsLevel.snd (sndC spec_l23Ranked.snd (sndC spec_PlacesOf.snd (sndC spec_ThinPlaces.snd (sndC spec_l14Has.snd (sndN)))))))
attribute [local irreducible] spec_ShownIds.run
theorem spec_ShownIds.rt (a0 : List Int) : spec_ShownIds.ret a0 = some (spec_ShownIds.toH (a0)) := rfl
theorem spec_ShownIds.br (n : Nat) : (∀ K, n ≤ K → ∀ (x8 : Int) (x5 : List Int) (x6 : List S59) (x7 : List Int) t, spec_ShownIds.l0 n x5 x6 x7 x8 = some t → spec_ShownIds.p7 K x8 x5 x6 x7 = some (spec_ShownIds.toH t)) := by
  induction n using Nat.strongRecOn with
  | _ n ih =>
  intro K hK x8 x5 x6 x7 t h
  all_goals (rcases n with _ | k)
  all_goals (try (exact nos h))
  all_goals (obtain ⟨K, rfl⟩ : ∃ q, K = q + 1 := ⟨K - 1, by omega⟩)
  all_goals (first | rw [spec_ShownIds.e7])
  all_goals (simp only [spec_ShownIds.l0] at h)
  repeat' (with_reducible first
   | exact nos h
   | (cases some_inj h; exact spec_ShownIds.rt _)
   | exact (ih _ (by omega)) _ (by omega) _ _ _ _ _ h
   | ((have q : spec_ShownIds.j0 k _ _ _ _ _ _ = some _ := h; clear q); rcases k with _ | k <;> simp only [spec_ShownIds.j0, reduceCtorEq] at h)
   | (simp only [Option.bind_some] at h)
   | (refine ite_by h ?_ ?_ <;> (intro hc h; (try simp only [nrm] at hc)))
   | refine itT ?_
   | refine itF ?_
   | (refine bind_by h (fun t ht h => ?_); (first | refine (spec_IsSource.ap_of (spec_IsSource.go ht _ (by omega))).trans ?_ | refine (spec_IsLevel.ap_of (spec_IsLevel.go ht _)).trans ?_ | refine (spec_l23Ranked.ap_of (spec_l23Ranked.go ht _ (by omega))).trans ?_ | refine (spec_PlacesOf.ap_of (spec_PlacesOf.go ht _ (by omega))).trans ?_ | refine (spec_ThinPlaces.ap_of (spec_ThinPlaces.go ht _ (by omega))).trans ?_ | refine (spec_l14Has.ap_of (spec_l14Has.go ht _ (by omega))).trans ?_); (try dsimp only at h ⊢))
   | (simp only [nr2] at h ⊢)
   | (exfalso; omega))
theorem spec_ShownIds.go {k : Nat} {l0 : List S59} {a1_0 : Int} {a1_1 : Int} {a1_2 : Int} {t} (h : spec_ShownIds.f k l0 a1_0 a1_1 a1_2 = some t) (K : Nat) (hK : k ≤ K) : spec_ShownIds.run K (l0, (⟨a1_0, a1_1, a1_2⟩ : S46), ()) = some (spec_ShownIds.toH t) := by
  rw [spec_ShownIds.ef]
  (try dsimp only)
  unfold spec_ShownIds.f at h
  repeat' (with_reducible first
   | exact nos h
   | (cases some_inj h; exact spec_ShownIds.rt _)
   | exact (spec_ShownIds.br _) _ (by omega) _ _ _ _ _ h
   | ((have q : spec_ShownIds.j0 k _ _ _ _ _ _ = some _ := h; clear q); rcases k with _ | k <;> simp only [spec_ShownIds.j0, reduceCtorEq] at h)
   | (simp only [Option.bind_some] at h)
   | (refine ite_by h ?_ ?_ <;> (intro hc h; (try simp only [nrm] at hc)))
   | refine itT ?_
   | refine itF ?_
   | (refine bind_by h (fun t ht h => ?_); (first | refine (spec_IsSource.ap_of (spec_IsSource.go ht _ (by omega))).trans ?_ | refine (spec_IsLevel.ap_of (spec_IsLevel.go ht _)).trans ?_ | refine (spec_l23Ranked.ap_of (spec_l23Ranked.go ht _ (by omega))).trans ?_ | refine (spec_PlacesOf.ap_of (spec_PlacesOf.go ht _ (by omega))).trans ?_ | refine (spec_ThinPlaces.ap_of (spec_ThinPlaces.go ht _ (by omega))).trans ?_ | refine (spec_l14Has.ap_of (spec_l14Has.go ht _ (by omega))).trans ?_); (try dsimp only at h ⊢))
   | (simp only [nr2] at h ⊢)
   | (exfalso; omega))
theorem spec_ShownIds.calls (k : Nat) (A0 : Option Addr) (c0 : Nat) (l0 : List (S59)) (a1_0 : Int) (a1_1 : Int) (a1_2 : Int) (r : List Int) (w : World) (hr0 : Kd.C k59 w A0 l0.length l0) (hc0 : l0.length ≤ c0) (h : spec_ShownIds.f k l0 a1_0 a1_1 a1_2 = some r) :
  Calls Tryz.prog 27 #[.slice A0 l0.length c0, .agg #[.int .i64 a1_0, .int .i64 a1_1, .int .i64 a1_2]] w fun e w' => ∃ v0_ : Value, e = .returned (v0_) ∧ Kd.R (Kd.int .i64) 3 w' w.heap.size (fun _ => True) v0_ r ∧ Below w.heap.size w w' := by
  refine (spec_ShownIds.snd.calls _ _ _ (spec_ShownIds.go h k (Nat.le_refl k)) w [.slice A0 l0.length c0, .agg #[.int .i64 a1_0, .int .i64 a1_1, .int .i64 a1_2]] ⟨⟨_, _, rfl, hc0, hr0⟩, ⟨_, rfl, (H46.K _ _ _).2 ⟨rfl, rfl, rfl, trivial⟩⟩, trivial⟩).mono ?_
  rintro e w' ⟨v, rfl, hB, vs, oks, rfl, hR, _⟩
  obtain ⟨x0_, vs, o0_, oks, rfl, rfl, m0_, hR⟩ := rmsC hR
  obtain rfl := rmsN hR
  obtain ⟨x0_v, x0_e, x0_R⟩ := m0_
  obtain rfl := List.singleton_inj.1 x0_e
  exact ⟨_, rfl, Kd.R_mono x0_R (fun _ _ => trivial), hB⟩
def laws_toLevel.Fs : List (Spc env) := []
def laws_toLevel.cut : Nat → Option (List (Lv SC)) := lk []
def laws_toLevel.ret (r0 : S46) : Option (HL eΓ [.st .s46]) := some (r0, ())
def laws_toLevel.run (k : Nat) (h : HL eΓ [.st .s44]) : Option (HL eΓ [.st .s46]) := evF env laws_toLevel.Fs Tryz.f28 laws_toLevel.cut [.st .s44] [.st .s46] k h
theorem laws_toLevel.ef (k : Nat) (h0 : S44) : laws_toLevel.run k (h0, ()) = laws_toLevel.ret (⟨h0.f0, h0.f1, h0.f2⟩ : S46) := by kernel_rfl
def laws_toLevel.toH (t : Int × Int × Int) : HL eΓ [.st .s46] := ((⟨t.1, t.2.1, t.2.2⟩ : S46), ())
def laws_toLevel.spec : Spc env := ⟨28, [.st .s44], [.st .s46], laws_toLevel.run⟩
theorem laws_toLevel.snd : Snd env laws_toLevel.spec := evF_snd env_ok (sndN)
attribute [local irreducible] laws_toLevel.run
theorem laws_toLevel.rt (a0 : Int) (a1 : Int) (a2 : Int) : laws_toLevel.ret (⟨a0, a1, a2⟩ : S46) = some (laws_toLevel.toH (a0, a1, a2)) := rfl
theorem laws_toLevel.go {a0_0 : Int} {a0_1 : Int} {a0_2 : Int} {t} (h : laws_toLevel.f a0_0 a0_1 a0_2 = some t) (K : Nat) : laws_toLevel.run K ((⟨a0_0, a0_1, a0_2⟩ : S44), ()) = some (laws_toLevel.toH t) := by
  rw [laws_toLevel.ef]
  (try dsimp only)
  unfold laws_toLevel.f at h
  repeat' (with_reducible first
   | exact nos h
   | (cases some_inj h; exact laws_toLevel.rt _ _ _)
   | (simp only [Option.bind_some] at h)
   | (refine ite_by h ?_ ?_ <;> (intro hc h; (try simp only [nrm] at hc)))
   | refine itT ?_
   | refine itF ?_
   | (simp only [nr2] at h ⊢)
   | (exfalso; omega))
theorem laws_toLevel.calls (a0_0 : Int) (a0_1 : Int) (a0_2 : Int) (r1 : Int) (r2 : Int) (r3 : Int) (w : World) (h : laws_toLevel.f a0_0 a0_1 a0_2 = some (r1, r2, r3)) :
  Calls Tryz.prog 28 #[.agg #[.int .i64 a0_0, .int .i64 a0_1, .int .i64 a0_2]] w fun e w' => e = .returned (.agg #[.int .i64 r1, .int .i64 r2, .int .i64 r3]) ∧ Below w.heap.size w w' := by
  refine (laws_toLevel.snd.calls _ _ _ (laws_toLevel.go h 0) w [.agg #[.int .i64 a0_0, .int .i64 a0_1, .int .i64 a0_2]] ⟨⟨_, rfl, (H44.K _ _ _).2 ⟨rfl, rfl, rfl, trivial⟩⟩, trivial⟩).mono ?_
  rintro e w' ⟨v, rfl, hB, vs, oks, rfl, hR, _⟩
  obtain ⟨x0_, vs, o0_, oks, rfl, rfl, m0_, hR⟩ := rmsC hR
  obtain rfl := rmsN hR
  obtain ⟨y0, rfl, m0_⟩ := m0_
  have m0_ := (H46.M _ _ _ _ _).1 m0_
  match e0 : y0.toList, m0_ with
  | [d0_0, d0_1, d0_2], ⟨n0_0, n0_1, n0_2, _⟩ =>
  obtain rfl : y0 = #[d0_0, d0_1, d0_2] := by rw [← Array.toArray_toList (xs := y0), e0]
  obtain rfl := List.singleton_inj.1 (show [d0_0] = [Value.int .i64 r1] from n0_0)
  obtain rfl := List.singleton_inj.1 (show [d0_1] = [Value.int .i64 r2] from n0_1)
  obtain rfl := List.singleton_inj.1 (show [d0_2] = [Value.int .i64 r3] from n0_2)
  exact ⟨rfl, hB⟩
def impl_InRange.toH (t : Bool) : HL eΓ [.b] := (t, ())
def impl_InRange.run (k : Nat) (h : HL eΓ [.i .i64, .i .i64, .i .i64]) : Option (HL eΓ [.b]) := (impl_InRange.f (h.1 : Int) (h.2.1 : Int) (h.2.2.1 : Int)).map impl_InRange.toH
def impl_InRange.spec : Spc env := ⟨104, [.i .i64, .i .i64, .i .i64], [.b], impl_InRange.run⟩
def impl_InRange.ap {R : Type} (k : Nat) (h0 : Int) (h1 : Int) (h2 : Int) (K : Bool → Option R) : Option R := (impl_InRange.run k (h0, h1, h2, ())).bind fun r => K (r.1 : Bool)
theorem impl_InRange.ap_of {R : Type} {k : Nat} {h0 : Int} {h1 : Int} {h2 : Int} {r0 : Bool} {K : Bool → Option R} (h : impl_InRange.run k (h0, h1, h2, ()) = some (r0, ())) : impl_InRange.ap k h0 h1 h2 K = K r0 := by unfold impl_InRange.ap; rw [h]; rfl
theorem impl_InRange.go {a0 : Int} {a1 : Int} {a2 : Int} {t} (h : impl_InRange.f a0 a1 a2 = some t) (K : Nat) : impl_InRange.run K (a0, a1, a2, ()) = some (impl_InRange.toH t) := by
  show Option.map _ (impl_InRange.f a0 a1 a2) = _
  rw [h]; rfl
theorem impl_InRange.snd : Snd env impl_InRange.spec := ⟨⟨Tryz.f104, by kernel_rfl, by kernel_rfl, by kernel_rfl⟩, fun k h r he w us hA => by
  obtain ⟨t, ht, rfl⟩ := Option.map_eq_some_iff.1 (show (impl_InRange.f (h.1 : Int) (h.2.1 : Int) (h.2.2.1 : Int)).map impl_InRange.toH = some r from he)
  match us, hA with
  | [u0, u1, u2], ⟨q0, q1, q2, _⟩ =>
  obtain rfl := List.singleton_inj.1 (show [u0] = [Value.int .i64 (h.1 : Int)] from q0)
  obtain rfl := List.singleton_inj.1 (show [u1] = [Value.int .i64 (h.2.1 : Int)] from q1)
  obtain rfl := List.singleton_inj.1 (show [u2] = [Value.int .i64 (h.2.2.1 : Int)] from q2)
  refine (impl_InRange.calls (w := w) (h := ht) ).mono ?_
  rintro e w' ⟨he, hw⟩
  exact ⟨_, he, (by obtain ⟨_, rfl⟩ := hw; exact Below.refl _ _), [.bool t], [fun _ => False], rfl, ⟨rfl, trivial⟩, by simp [DJ]⟩⟩
def impl_IsPoint.toH (t : Bool) : HL eΓ [.b] := (t, ())
def impl_IsPoint.run (k : Nat) (h : HL eΓ [.st .s75]) : Option (HL eΓ [.b]) := (impl_IsPoint.f ((h.1 : S75).f0) ((h.1 : S75).f1)).map impl_IsPoint.toH
def impl_IsPoint.spec : Spc env := ⟨102, [.st .s75], [.b], impl_IsPoint.run⟩
def impl_IsPoint.ap {R : Type} (k : Nat) (h0 : S75) (K : Bool → Option R) : Option R := (impl_IsPoint.run k (h0, ())).bind fun r => K (r.1 : Bool)
theorem impl_IsPoint.ap_of {R : Type} {k : Nat} {h0 : S75} {r0 : Bool} {K : Bool → Option R} (h : impl_IsPoint.run k (h0, ()) = some (r0, ())) : impl_IsPoint.ap k h0 K = K r0 := by unfold impl_IsPoint.ap; rw [h]; rfl
theorem impl_IsPoint.go {a0_0 : Int} {a0_1 : Int} {t} (h : impl_IsPoint.f a0_0 a0_1 = some t) (K : Nat) : impl_IsPoint.run K ((⟨a0_0, a0_1⟩ : S75), ()) = some (impl_IsPoint.toH t) := by
  show Option.map _ (impl_IsPoint.f a0_0 a0_1) = _
  rw [h]; rfl
theorem impl_IsPoint.snd : Snd env impl_IsPoint.spec := ⟨⟨Tryz.f102, by kernel_rfl, by kernel_rfl, by kernel_rfl⟩, fun k h r he w us hA => by
  obtain ⟨t, ht, rfl⟩ := Option.map_eq_some_iff.1 (show (impl_IsPoint.f ((h.1 : S75).f0) ((h.1 : S75).f1)).map impl_IsPoint.toH = some r from he)
  match us, hA with
  | [u0], ⟨q0, _⟩ =>
  obtain ⟨v0, rfl, q0⟩ := q0
  have q0 := (H75.K _ _ _).1 q0
  match e0 : v0.toList, q0 with
  | [c0_0, c0_1], ⟨p0_0, p0_1, _⟩ =>
  obtain rfl : v0 = #[c0_0, c0_1] := by rw [← Array.toArray_toList (xs := v0), e0]
  obtain rfl := List.singleton_inj.1 (show [c0_0] = [Value.int .i64 ((h.1 : S75).f0)] from p0_0)
  obtain rfl := List.singleton_inj.1 (show [c0_1] = [Value.int .i64 ((h.1 : S75).f1)] from p0_1)
  refine (impl_IsPoint.calls (w := w) (h := ht) ).mono ?_
  rintro e w' ⟨he, hw⟩
  exact ⟨_, he, hw, [.bool t], [fun _ => False], rfl, ⟨rfl, trivial⟩, by simp [DJ]⟩⟩
def impl_IsName.Fs : List (Spc env) := [impl_InRange.spec]
def impl_IsName.fin : St eΓ → Option (HL eΓ [.b]) := finR env Tryz.f103.results.toList [.b]
def impl_IsName.cut : Nat → Option (List (Lv SC)) := lk [(2, [⟨0, none, false⟩, ⟨5, none, false⟩, ⟨6, none, false⟩])]
def impl_IsName.ret (r0 : Bool) : Option (HL eΓ [.b]) := some (r0, ())
def impl_IsName.p2 (k : Nat) (x0 : ByteArray) (x5 : Int) (x6 : Int) : Option (HL eΓ [.b]) := evM env impl_IsName.Fs Tryz.f103.ntmps impl_IsName.fin impl_IsName.cut k [.code (sub_ [1, 0, 1, 0, 0, 0] (bodyOf Tryz.f103)), .code (sub_ [1, 0, 1, 0, 0, 1] (bodyOf Tryz.f103)), .lp (sub_ [1, 0, 1, 0, 0] (bodyOf Tryz.f103)), .blk 0, .code (sub_ [1, 1] (bodyOf Tryz.f103))] (mkSt [(0, .c (.v (.string x0))), (5, .c (.v (.int .i64 x5))), (6, .c (.v (.int .i64 x6)))] [])
theorem impl_IsName.e2 (k : Nat) (x0 : ByteArray) (x5 : Int) (x6 : Int) : impl_IsName.p2 (k + 1) x0 x5 x6 = if x6 < x5 then (if 0 ≤ x6 then (if x6 < (x0.size : Int) then (if (bt x0 x6) < 97 then (impl_IsName.ret false) else (if 0 ≤ x6 then (if x6 < (x0.size : Int) then (if (bt x0 x6) > 122 then (impl_IsName.ret false) else (impl_IsName.p2 k x0 x5 (wrap64 (x6 + 1)))) else none) else none)) else none) else none) else (impl_InRange.ap k (x0.size : Int) 1 8 fun r1 => impl_IsName.ret r1) := by kernel_rfl
def impl_IsName.run (k : Nat) (h : HL eΓ [.s]) : Option (HL eΓ [.b]) := evF env impl_IsName.Fs Tryz.f103 impl_IsName.cut [.s] [.b] k h
theorem impl_IsName.ef (k : Nat) (h0 : ByteArray) : impl_IsName.run k (h0, ()) = impl_IsName.p2 k h0 (h0.size : Int) 0 := by kernel_rfl
def impl_IsName.toH (t : Bool) : HL eΓ [.b] := (t, ())
def impl_IsName.spec : Spc env := ⟨103, [.s], [.b], impl_IsName.run⟩
def impl_IsName.ap {R : Type} (k : Nat) (h0 : ByteArray) (K : Bool → Option R) : Option R := (impl_IsName.run k (h0, ())).bind fun r => K (r.1 : Bool)
theorem impl_IsName.ap_of {R : Type} {k : Nat} {h0 : ByteArray} {r0 : Bool} {K : Bool → Option R} (h : impl_IsName.run k (h0, ()) = some (r0, ())) : impl_IsName.ap k h0 K = K r0 := by unfold impl_IsName.ap; rw [h]; rfl
theorem impl_IsName.snd : Snd env impl_IsName.spec := evF_snd env_ok (sndC impl_InRange.snd (sndN))
attribute [local irreducible] impl_IsName.run
theorem impl_IsName.rt (a0 : Bool) : impl_IsName.ret a0 = some (impl_IsName.toH (a0)) := rfl
theorem impl_IsName.br (n : Nat) : (∀ K, n ≤ K → ∀ (x0 : ByteArray) (x5 : Int) (x6 : Int) t, impl_IsName.l0 n x0 x5 x6 = some t → impl_IsName.p2 K x0 x5 x6 = some (impl_IsName.toH t)) := by
  induction n using Nat.strongRecOn with
  | _ n ih =>
  intro K hK x0 x5 x6 t h
  all_goals (rcases n with _ | k)
  all_goals (try (exact nos h))
  all_goals (obtain ⟨K, rfl⟩ : ∃ q, K = q + 1 := ⟨K - 1, by omega⟩)
  all_goals (first | rw [impl_IsName.e2])
  all_goals (simp only [impl_IsName.l0] at h)
  repeat' (with_reducible first
   | exact nos h
   | (cases some_inj h; exact impl_IsName.rt _)
   | exact (ih _ (by omega)) _ (by omega) _ _ _ _ h
   | (simp only [Option.bind_some] at h)
   | (refine ite_by h ?_ ?_ <;> (intro hc h; (try simp only [nrm] at hc)))
   | refine itT ?_
   | refine itF ?_
   | (refine bind_by h (fun t ht h => ?_); refine (impl_InRange.ap_of (impl_InRange.go ht _)).trans ?_; (try dsimp only at h ⊢))
   | (simp only [nr2] at h ⊢)
   | (exfalso; omega))
theorem impl_IsName.go {k : Nat} {a0 : ByteArray} {t} (h : impl_IsName.f k a0 = some t) (K : Nat) (hK : k ≤ K) : impl_IsName.run K (a0, ()) = some (impl_IsName.toH t) := by
  rw [impl_IsName.ef]
  (try dsimp only)
  unfold impl_IsName.f at h
  repeat' (with_reducible first
   | exact nos h
   | (cases some_inj h; exact impl_IsName.rt _)
   | exact (impl_IsName.br _) _ (by omega) _ _ _ _ h
   | (simp only [Option.bind_some] at h)
   | (refine ite_by h ?_ ?_ <;> (intro hc h; (try simp only [nrm] at hc)))
   | refine itT ?_
   | refine itF ?_
   | (refine bind_by h (fun t ht h => ?_); refine (impl_InRange.ap_of (impl_InRange.go ht _)).trans ?_; (try dsimp only at h ⊢))
   | (simp only [nr2] at h ⊢)
   | (exfalso; omega))
def impl_IsSegment.toH (t : Bool) : HL eΓ [.b] := (t, ())
def impl_IsSegment.run (k : Nat) (h : HL eΓ [.st .s133]) : Option (HL eΓ [.b]) := (impl_IsSegment.f ((h.1 : S133).f0.f0) ((h.1 : S133).f0.f1) ((h.1 : S133).f1.f0) ((h.1 : S133).f1.f1)).map impl_IsSegment.toH
def impl_IsSegment.spec : Spc env := ⟨171, [.st .s133], [.b], impl_IsSegment.run⟩
def impl_IsSegment.ap {R : Type} (k : Nat) (h0 : S133) (K : Bool → Option R) : Option R := (impl_IsSegment.run k (h0, ())).bind fun r => K (r.1 : Bool)
theorem impl_IsSegment.ap_of {R : Type} {k : Nat} {h0 : S133} {r0 : Bool} {K : Bool → Option R} (h : impl_IsSegment.run k (h0, ()) = some (r0, ())) : impl_IsSegment.ap k h0 K = K r0 := by unfold impl_IsSegment.ap; rw [h]; rfl
theorem impl_IsSegment.go {a0_0 : Int} {a0_1 : Int} {a0_2 : Int} {a0_3 : Int} {t} (h : impl_IsSegment.f a0_0 a0_1 a0_2 a0_3 = some t) (K : Nat) : impl_IsSegment.run K ((⟨(⟨a0_0, a0_1⟩ : S75), (⟨a0_2, a0_3⟩ : S75)⟩ : S133), ()) = some (impl_IsSegment.toH t) := by
  show Option.map _ (impl_IsSegment.f a0_0 a0_1 a0_2 a0_3) = _
  rw [h]; rfl
theorem impl_IsSegment.snd : Snd env impl_IsSegment.spec := ⟨⟨Tryz.f171, by kernel_rfl, by kernel_rfl, by kernel_rfl⟩, fun k h r he w us hA => by
  obtain ⟨t, ht, rfl⟩ := Option.map_eq_some_iff.1 (show (impl_IsSegment.f ((h.1 : S133).f0.f0) ((h.1 : S133).f0.f1) ((h.1 : S133).f1.f0) ((h.1 : S133).f1.f1)).map impl_IsSegment.toH = some r from he)
  match us, hA with
  | [u0], ⟨q0, _⟩ =>
  obtain ⟨v0, rfl, q0⟩ := q0
  have q0 := (H133.K _ _ _).1 q0
  match e0 : v0.toList, q0 with
  | [c0_0, c0_1, c0_2, c0_3], ⟨p0_0, p0_1, p0_2, p0_3, _⟩ =>
  obtain rfl : v0 = #[c0_0, c0_1, c0_2, c0_3] := by rw [← Array.toArray_toList (xs := v0), e0]
  obtain rfl := List.singleton_inj.1 (show [c0_0] = [Value.int .i64 ((h.1 : S133).f0.f0)] from p0_0)
  obtain rfl := List.singleton_inj.1 (show [c0_1] = [Value.int .i64 ((h.1 : S133).f0.f1)] from p0_1)
  obtain rfl := List.singleton_inj.1 (show [c0_2] = [Value.int .i64 ((h.1 : S133).f1.f0)] from p0_2)
  obtain rfl := List.singleton_inj.1 (show [c0_3] = [Value.int .i64 ((h.1 : S133).f1.f1)] from p0_3)
  refine (impl_IsSegment.calls (w := w) (h := ht) ).mono ?_
  rintro e w' ⟨he, hw⟩
  exact ⟨_, he, hw, [.bool t], [fun _ => False], rfl, ⟨rfl, trivial⟩, by simp [DJ]⟩⟩
def impl_around.Fs : List (Spc env) := []
def impl_around.fin : St eΓ → Option (HL eΓ [.l 133 (.st .s133)]) := finR env Tryz.f183.results.toList [.l 133 (.st .s133)]
def impl_around.cut : Nat → Option (List (Lv SC)) := lk [(3, [⟨0, none, false⟩, ⟨3, none, false⟩, ⟨7, none, false⟩, ⟨8, none, false⟩, ⟨9, none, false⟩])]
def impl_around.ret (r0 : List S133) : Option (HL eΓ [.l 133 (.st .s133)]) := some (r0, ())
def impl_around.p3 (k : Nat) (x8 : Int) (x9 : Int) (x0 : List S75) (x3 : List S133) : Option (HL eΓ [.l 133 (.st .s133)]) := evM env impl_around.Fs Tryz.f183.ntmps impl_around.fin impl_around.cut k [.code (sub_ [1, 1, 0, 1, 0, 0, 0] (bodyOf Tryz.f183)), .code (sub_ [1, 1, 0, 1, 0, 0, 1] (bodyOf Tryz.f183)), .lp (sub_ [1, 1, 0, 1, 0, 0] (bodyOf Tryz.f183)), .blk 0, .code (sub_ [1, 1, 1] (bodyOf Tryz.f183))] (mkSt [(0, .c (.sl 0)), (3, .c (.sl 1)), (7, .c (.sl 0)), (8, .c (.v (.int .i64 x8))), (9, .c (.v (.int .i64 x9)))] [.row .ro 75 (.st .s75) x0, .row .own 133 (.st .s133) x3])
theorem impl_around.e3 (k : Nat) (x8 : Int) (x9 : Int) (x0 : List S75) (x3 : List S133) : impl_around.p3 (k + 1) x8 x9 x0 x3 = if x9 < x8 then (if 0 ≤ x9 then (if x9 < (x0.length : Int) then (if (x0.length : Int) = 0 then none else (if 0 ≤ (Int.tmod (wrap64 (x9 + 1)) (x0.length : Int)) then (if (Int.tmod (wrap64 (x9 + 1)) (x0.length : Int)) < (x0.length : Int) then (if (x3.length + 1) * 32 ≤ 140737488355328 then (impl_around.p3 k x8 (wrap64 (x9 + 1)) x0 (x3 ++ [(⟨(⟨(rd_T75 x0 x9).f0, (rd_T75 x0 x9).f1⟩ : S75), (⟨(rd_T75 x0 (Int.tmod (wrap64 (x9 + 1)) (x0.length : Int))).f0, (rd_T75 x0 (Int.tmod (wrap64 (x9 + 1)) (x0.length : Int))).f1⟩ : S75)⟩ : S133)])) else none) else none) else none)) else none) else none) else (impl_around.ret x3) := by kernel_rfl
def impl_around.run (k : Nat) (h : HL eΓ [.l 75 (.st .s75)]) : Option (HL eΓ [.l 133 (.st .s133)]) := evF env impl_around.Fs Tryz.f183 impl_around.cut [.l 75 (.st .s75)] [.l 133 (.st .s133)] k h
theorem impl_around.ef (k : Nat) (h0 : List S75) : impl_around.run k (h0, ()) = impl_around.p3 k (h0.length : Int) 0 h0 ([] : List S133) := by kernel_rfl
def impl_around.toH (t : (List (S133))) : HL eΓ [.l 133 (.st .s133)] := (t, ())
def impl_around.spec : Spc env := ⟨183, [.l 75 (.st .s75)], [.l 133 (.st .s133)], impl_around.run⟩
def impl_around.ap {R : Type} (k : Nat) (h0 : List S75) (K : (List S133) → Option R) : Option R := (impl_around.run k (h0, ())).bind fun r => K (r.1 : List S133)
theorem impl_around.ap_of {R : Type} {k : Nat} {h0 : List S75} {r0 : List S133} {K : (List S133) → Option R} (h : impl_around.run k (h0, ()) = some (r0, ())) : impl_around.ap k h0 K = K r0 := by unfold impl_around.ap; rw [h]; rfl
theorem impl_around.snd : Snd env impl_around.spec := evF_snd env_ok (sndN)
attribute [local irreducible] impl_around.run
theorem impl_around.rt (a0 : List S133) : impl_around.ret a0 = some (impl_around.toH (a0)) := rfl
theorem impl_around.br (n : Nat) : (∀ K, n ≤ K → ∀ (x8 : Int) (x9 : Int) (x0 : List S75) (x3 : List S133) t, impl_around.l0 n x0 x3 x0 x8 x9 = some t → impl_around.p3 K x8 x9 x0 x3 = some (impl_around.toH t)) := by
  induction n using Nat.strongRecOn with
  | _ n ih =>
  intro K hK x8 x9 x0 x3 t h
  all_goals (rcases n with _ | k)
  all_goals (try (exact nos h))
  all_goals (obtain ⟨K, rfl⟩ : ∃ q, K = q + 1 := ⟨K - 1, by omega⟩)
  all_goals (first | rw [impl_around.e3])
  all_goals (simp only [impl_around.l0] at h)
  repeat' (with_reducible first
   | exact nos h
   | (cases some_inj h; exact impl_around.rt _)
   | exact (ih _ (by omega)) _ (by omega) _ _ _ _ _ h
   | (simp only [Option.bind_some] at h)
   | (refine ite_by h ?_ ?_ <;> (intro hc h; (try simp only [nrm] at hc)))
   | refine itT ?_
   | refine itF ?_
   | (simp only [nr2] at h ⊢)
   | (exfalso; omega))
theorem impl_around.go {k : Nat} {l0 : List S75} {t} (h : impl_around.f k l0 = some t) (K : Nat) (hK : k ≤ K) : impl_around.run K (l0, ()) = some (impl_around.toH t) := by
  rw [impl_around.ef]
  (try dsimp only)
  unfold impl_around.f at h
  repeat' (with_reducible first
   | exact nos h
   | (cases some_inj h; exact impl_around.rt _)
   | exact (impl_around.br _) _ (by omega) _ _ _ _ _ h
   | (simp only [Option.bind_some] at h)
   | (refine ite_by h ?_ ?_ <;> (intro hc h; (try simp only [nrm] at hc)))
   | refine itT ?_
   | refine itF ?_
   | (simp only [nr2] at h ⊢)
   | (exfalso; omega))
def impl_SideOf.toH (t : Int) : HL eΓ [.i .i64] := (t, ())
def impl_SideOf.run (k : Nat) (h : HL eΓ [.st .s75, .st .s75, .st .s75]) : Option (HL eΓ [.i .i64]) := (impl_SideOf.f ((h.1 : S75).f0) ((h.1 : S75).f1) ((h.2.1 : S75).f0) ((h.2.1 : S75).f1) ((h.2.2.1 : S75).f0) ((h.2.2.1 : S75).f1)).map impl_SideOf.toH
def impl_SideOf.spec : Spc env := ⟨174, [.st .s75, .st .s75, .st .s75], [.i .i64], impl_SideOf.run⟩
def impl_SideOf.ap {R : Type} (k : Nat) (h0 : S75) (h1 : S75) (h2 : S75) (K : Int → Option R) : Option R := (impl_SideOf.run k (h0, h1, h2, ())).bind fun r => K (r.1 : Int)
theorem impl_SideOf.ap_of {R : Type} {k : Nat} {h0 : S75} {h1 : S75} {h2 : S75} {r0 : Int} {K : Int → Option R} (h : impl_SideOf.run k (h0, h1, h2, ()) = some (r0, ())) : impl_SideOf.ap k h0 h1 h2 K = K r0 := by unfold impl_SideOf.ap; rw [h]; rfl
theorem impl_SideOf.go {a0_0 : Int} {a0_1 : Int} {a1_0 : Int} {a1_1 : Int} {a2_0 : Int} {a2_1 : Int} {t} (h : impl_SideOf.f a0_0 a0_1 a1_0 a1_1 a2_0 a2_1 = some t) (K : Nat) : impl_SideOf.run K ((⟨a0_0, a0_1⟩ : S75), (⟨a1_0, a1_1⟩ : S75), (⟨a2_0, a2_1⟩ : S75), ()) = some (impl_SideOf.toH t) := by
  show Option.map _ (impl_SideOf.f a0_0 a0_1 a1_0 a1_1 a2_0 a2_1) = _
  rw [h]; rfl
theorem impl_SideOf.snd : Snd env impl_SideOf.spec := ⟨⟨Tryz.f174, by kernel_rfl, by kernel_rfl, by kernel_rfl⟩, fun k h r he w us hA => by
  obtain ⟨t, ht, rfl⟩ := Option.map_eq_some_iff.1 (show (impl_SideOf.f ((h.1 : S75).f0) ((h.1 : S75).f1) ((h.2.1 : S75).f0) ((h.2.1 : S75).f1) ((h.2.2.1 : S75).f0) ((h.2.2.1 : S75).f1)).map impl_SideOf.toH = some r from he)
  match us, hA with
  | [u0, u1, u2], ⟨q0, q1, q2, _⟩ =>
  obtain ⟨v0, rfl, q0⟩ := q0
  have q0 := (H75.K _ _ _).1 q0
  match e0 : v0.toList, q0 with
  | [c0_0, c0_1], ⟨p0_0, p0_1, _⟩ =>
  obtain rfl : v0 = #[c0_0, c0_1] := by rw [← Array.toArray_toList (xs := v0), e0]
  obtain rfl := List.singleton_inj.1 (show [c0_0] = [Value.int .i64 ((h.1 : S75).f0)] from p0_0)
  obtain rfl := List.singleton_inj.1 (show [c0_1] = [Value.int .i64 ((h.1 : S75).f1)] from p0_1)
  obtain ⟨v1, rfl, q1⟩ := q1
  have q1 := (H75.K _ _ _).1 q1
  match e1 : v1.toList, q1 with
  | [c1_0, c1_1], ⟨p1_0, p1_1, _⟩ =>
  obtain rfl : v1 = #[c1_0, c1_1] := by rw [← Array.toArray_toList (xs := v1), e1]
  obtain rfl := List.singleton_inj.1 (show [c1_0] = [Value.int .i64 ((h.2.1 : S75).f0)] from p1_0)
  obtain rfl := List.singleton_inj.1 (show [c1_1] = [Value.int .i64 ((h.2.1 : S75).f1)] from p1_1)
  obtain ⟨v2, rfl, q2⟩ := q2
  have q2 := (H75.K _ _ _).1 q2
  match e2 : v2.toList, q2 with
  | [c2_0, c2_1], ⟨p2_0, p2_1, _⟩ =>
  obtain rfl : v2 = #[c2_0, c2_1] := by rw [← Array.toArray_toList (xs := v2), e2]
  obtain rfl := List.singleton_inj.1 (show [c2_0] = [Value.int .i64 ((h.2.2.1 : S75).f0)] from p2_0)
  obtain rfl := List.singleton_inj.1 (show [c2_1] = [Value.int .i64 ((h.2.2.1 : S75).f1)] from p2_1)
  refine (impl_SideOf.calls (w := w) (h := ht) ).mono ?_
  rintro e w' ⟨he, hw⟩
  exact ⟨_, he, hw, [.int .i64 t], [fun _ => False], rfl, ⟨rfl, trivial⟩, by simp [DJ]⟩⟩
def impl_BeforePoint.toH (t : Bool) : HL eΓ [.b] := (t, ())
def impl_BeforePoint.run (k : Nat) (h : HL eΓ [.st .s75, .st .s75]) : Option (HL eΓ [.b]) := (impl_BeforePoint.f ((h.1 : S75).f0) ((h.1 : S75).f1) ((h.2.1 : S75).f0) ((h.2.1 : S75).f1)).map impl_BeforePoint.toH
def impl_BeforePoint.spec : Spc env := ⟨199, [.st .s75, .st .s75], [.b], impl_BeforePoint.run⟩
def impl_BeforePoint.ap {R : Type} (k : Nat) (h0 : S75) (h1 : S75) (K : Bool → Option R) : Option R := (impl_BeforePoint.run k (h0, h1, ())).bind fun r => K (r.1 : Bool)
theorem impl_BeforePoint.ap_of {R : Type} {k : Nat} {h0 : S75} {h1 : S75} {r0 : Bool} {K : Bool → Option R} (h : impl_BeforePoint.run k (h0, h1, ()) = some (r0, ())) : impl_BeforePoint.ap k h0 h1 K = K r0 := by unfold impl_BeforePoint.ap; rw [h]; rfl
theorem impl_BeforePoint.go {a0_0 : Int} {a0_1 : Int} {a1_0 : Int} {a1_1 : Int} {t} (h : impl_BeforePoint.f a0_0 a0_1 a1_0 a1_1 = some t) (K : Nat) : impl_BeforePoint.run K ((⟨a0_0, a0_1⟩ : S75), (⟨a1_0, a1_1⟩ : S75), ()) = some (impl_BeforePoint.toH t) := by
  show Option.map _ (impl_BeforePoint.f a0_0 a0_1 a1_0 a1_1) = _
  rw [h]; rfl
theorem impl_BeforePoint.snd : Snd env impl_BeforePoint.spec := ⟨⟨Tryz.f199, by kernel_rfl, by kernel_rfl, by kernel_rfl⟩, fun k h r he w us hA => by
  obtain ⟨t, ht, rfl⟩ := Option.map_eq_some_iff.1 (show (impl_BeforePoint.f ((h.1 : S75).f0) ((h.1 : S75).f1) ((h.2.1 : S75).f0) ((h.2.1 : S75).f1)).map impl_BeforePoint.toH = some r from he)
  match us, hA with
  | [u0, u1], ⟨q0, q1, _⟩ =>
  obtain ⟨v0, rfl, q0⟩ := q0
  have q0 := (H75.K _ _ _).1 q0
  match e0 : v0.toList, q0 with
  | [c0_0, c0_1], ⟨p0_0, p0_1, _⟩ =>
  obtain rfl : v0 = #[c0_0, c0_1] := by rw [← Array.toArray_toList (xs := v0), e0]
  obtain rfl := List.singleton_inj.1 (show [c0_0] = [Value.int .i64 ((h.1 : S75).f0)] from p0_0)
  obtain rfl := List.singleton_inj.1 (show [c0_1] = [Value.int .i64 ((h.1 : S75).f1)] from p0_1)
  obtain ⟨v1, rfl, q1⟩ := q1
  have q1 := (H75.K _ _ _).1 q1
  match e1 : v1.toList, q1 with
  | [c1_0, c1_1], ⟨p1_0, p1_1, _⟩ =>
  obtain rfl : v1 = #[c1_0, c1_1] := by rw [← Array.toArray_toList (xs := v1), e1]
  obtain rfl := List.singleton_inj.1 (show [c1_0] = [Value.int .i64 ((h.2.1 : S75).f0)] from p1_0)
  obtain rfl := List.singleton_inj.1 (show [c1_1] = [Value.int .i64 ((h.2.1 : S75).f1)] from p1_1)
  refine (impl_BeforePoint.calls (w := w) (h := ht) ).mono ?_
  rintro e w' ⟨he, hw⟩
  exact ⟨_, he, hw, [.bool t], [fun _ => False], rfl, ⟨rfl, trivial⟩, by simp [DJ]⟩⟩
def impl_TurnSegment.Fs : List (Spc env) := []
def impl_TurnSegment.cut : Nat → Option (List (Lv SC)) := lk []
def impl_TurnSegment.ret (r0 : S133) : Option (HL eΓ [.st .s133]) := some (r0, ())
def impl_TurnSegment.run (k : Nat) (h : HL eΓ [.st .s133]) : Option (HL eΓ [.st .s133]) := evF env impl_TurnSegment.Fs Tryz.f205 impl_TurnSegment.cut [.st .s133] [.st .s133] k h
theorem impl_TurnSegment.ef (k : Nat) (h0 : S133) : impl_TurnSegment.run k (h0, ()) = impl_TurnSegment.ret (⟨(⟨h0.f1.f0, h0.f1.f1⟩ : S75), (⟨h0.f0.f0, h0.f0.f1⟩ : S75)⟩ : S133) := by kernel_rfl
def impl_TurnSegment.toH (t : Int × Int × Int × Int) : HL eΓ [.st .s133] := ((⟨(⟨t.1, t.2.1⟩ : S75), (⟨t.2.2.1, t.2.2.2⟩ : S75)⟩ : S133), ())
def impl_TurnSegment.spec : Spc env := ⟨205, [.st .s133], [.st .s133], impl_TurnSegment.run⟩
def impl_TurnSegment.ap {R : Type} (k : Nat) (h0 : S133) (K : S133 → Option R) : Option R := (impl_TurnSegment.run k (h0, ())).bind fun r => K (r.1 : S133)
theorem impl_TurnSegment.ap_of {R : Type} {k : Nat} {h0 : S133} {r0 : S133} {K : S133 → Option R} (h : impl_TurnSegment.run k (h0, ()) = some (r0, ())) : impl_TurnSegment.ap k h0 K = K r0 := by unfold impl_TurnSegment.ap; rw [h]; rfl
theorem impl_TurnSegment.snd : Snd env impl_TurnSegment.spec := evF_snd env_ok (sndN)
attribute [local irreducible] impl_TurnSegment.run
theorem impl_TurnSegment.rt (a0 : Int) (a1 : Int) (a2 : Int) (a3 : Int) : impl_TurnSegment.ret (⟨(⟨a0, a1⟩ : S75), (⟨a2, a3⟩ : S75)⟩ : S133) = some (impl_TurnSegment.toH (a0, a1, a2, a3)) := rfl
theorem impl_TurnSegment.go {a0_0 : Int} {a0_1 : Int} {a0_2 : Int} {a0_3 : Int} {t} (h : impl_TurnSegment.f a0_0 a0_1 a0_2 a0_3 = some t) (K : Nat) : impl_TurnSegment.run K ((⟨(⟨a0_0, a0_1⟩ : S75), (⟨a0_2, a0_3⟩ : S75)⟩ : S133), ()) = some (impl_TurnSegment.toH t) := by
  rw [impl_TurnSegment.ef]
  (try dsimp only)
  unfold impl_TurnSegment.f at h
  repeat' (with_reducible first
   | exact nos h
   | (cases some_inj h; exact impl_TurnSegment.rt _ _ _ _)
   | (simp only [Option.bind_some] at h)
   | (refine ite_by h ?_ ?_ <;> (intro hc h; (try simp only [nrm] at hc)))
   | refine itT ?_
   | refine itF ?_
   | (simp only [nr2] at h ⊢)
   | (exfalso; omega))
def impl_forward.Fs : List (Spc env) := [impl_BeforePoint.spec, impl_TurnSegment.spec]
def impl_forward.cut : Nat → Option (List (Lv SC)) := lk []
def impl_forward.ret (r0 : S133) : Option (HL eΓ [.st .s133]) := some (r0, ())
def impl_forward.run (k : Nat) (h : HL eΓ [.st .s133]) : Option (HL eΓ [.st .s133]) := evF env impl_forward.Fs Tryz.f198 impl_forward.cut [.st .s133] [.st .s133] k h
theorem impl_forward.ef (k : Nat) (h0 : S133) : impl_forward.run k (h0, ()) = impl_BeforePoint.ap k (⟨h0.f1.f0, h0.f1.f1⟩ : S75) (⟨h0.f0.f0, h0.f0.f1⟩ : S75) fun r1 => if r1 = true then (impl_TurnSegment.ap k (⟨(⟨h0.f0.f0, h0.f0.f1⟩ : S75), (⟨h0.f1.f0, h0.f1.f1⟩ : S75)⟩ : S133) fun r2 => impl_forward.ret (⟨(⟨r2.f0.f0, r2.f0.f1⟩ : S75), (⟨r2.f1.f0, r2.f1.f1⟩ : S75)⟩ : S133)) else (impl_forward.ret (⟨(⟨h0.f0.f0, h0.f0.f1⟩ : S75), (⟨h0.f1.f0, h0.f1.f1⟩ : S75)⟩ : S133)) := by kernel_rfl
def impl_forward.toH (t : Int × Int × Int × Int) : HL eΓ [.st .s133] := ((⟨(⟨t.1, t.2.1⟩ : S75), (⟨t.2.2.1, t.2.2.2⟩ : S75)⟩ : S133), ())
def impl_forward.spec : Spc env := ⟨198, [.st .s133], [.st .s133], impl_forward.run⟩
def impl_forward.ap {R : Type} (k : Nat) (h0 : S133) (K : S133 → Option R) : Option R := (impl_forward.run k (h0, ())).bind fun r => K (r.1 : S133)
theorem impl_forward.ap_of {R : Type} {k : Nat} {h0 : S133} {r0 : S133} {K : S133 → Option R} (h : impl_forward.run k (h0, ()) = some (r0, ())) : impl_forward.ap k h0 K = K r0 := by unfold impl_forward.ap; rw [h]; rfl
theorem impl_forward.snd : Snd env impl_forward.spec := evF_snd env_ok (sndC impl_BeforePoint.snd (sndC impl_TurnSegment.snd (sndN)))
attribute [local irreducible] impl_forward.run
theorem impl_forward.rt (a0 : Int) (a1 : Int) (a2 : Int) (a3 : Int) : impl_forward.ret (⟨(⟨a0, a1⟩ : S75), (⟨a2, a3⟩ : S75)⟩ : S133) = some (impl_forward.toH (a0, a1, a2, a3)) := rfl
theorem impl_forward.go {a0_0 : Int} {a0_1 : Int} {a0_2 : Int} {a0_3 : Int} {t} (h : impl_forward.f a0_0 a0_1 a0_2 a0_3 = some t) (K : Nat) : impl_forward.run K ((⟨(⟨a0_0, a0_1⟩ : S75), (⟨a0_2, a0_3⟩ : S75)⟩ : S133), ()) = some (impl_forward.toH t) := by
  rw [impl_forward.ef]
  (try dsimp only)
  unfold impl_forward.f at h
  repeat' (with_reducible first
   | exact nos h
   | (cases some_inj h; exact impl_forward.rt _ _ _ _)
   | (simp only [Option.bind_some] at h)
   | (refine ite_by h ?_ ?_ <;> (intro hc h; (try simp only [nrm] at hc)))
   | refine itT ?_
   | refine itF ?_
   | (refine bind_by h (fun t ht h => ?_); (first | refine (impl_BeforePoint.ap_of (impl_BeforePoint.go ht _)).trans ?_ | refine (impl_TurnSegment.ap_of (impl_TurnSegment.go ht _)).trans ?_); (try dsimp only at h ⊢))
   | (simp only [nr2] at h ⊢)
   | (exfalso; omega))
def impl_IsOn.toH (t : Bool) : HL eΓ [.b] := (t, ())
def impl_IsOn.run (k : Nat) (h : HL eΓ [.st .s133, .st .s75]) : Option (HL eΓ [.b]) := (impl_IsOn.f ((h.1 : S133).f0.f0) ((h.1 : S133).f0.f1) ((h.1 : S133).f1.f0) ((h.1 : S133).f1.f1) ((h.2.1 : S75).f0) ((h.2.1 : S75).f1)).map impl_IsOn.toH
def impl_IsOn.spec : Spc env := ⟨200, [.st .s133, .st .s75], [.b], impl_IsOn.run⟩
def impl_IsOn.ap {R : Type} (k : Nat) (h0 : S133) (h1 : S75) (K : Bool → Option R) : Option R := (impl_IsOn.run k (h0, h1, ())).bind fun r => K (r.1 : Bool)
theorem impl_IsOn.ap_of {R : Type} {k : Nat} {h0 : S133} {h1 : S75} {r0 : Bool} {K : Bool → Option R} (h : impl_IsOn.run k (h0, h1, ()) = some (r0, ())) : impl_IsOn.ap k h0 h1 K = K r0 := by unfold impl_IsOn.ap; rw [h]; rfl
theorem impl_IsOn.go {a0_0 : Int} {a0_1 : Int} {a0_2 : Int} {a0_3 : Int} {a1_0 : Int} {a1_1 : Int} {t} (h : impl_IsOn.f a0_0 a0_1 a0_2 a0_3 a1_0 a1_1 = some t) (K : Nat) : impl_IsOn.run K ((⟨(⟨a0_0, a0_1⟩ : S75), (⟨a0_2, a0_3⟩ : S75)⟩ : S133), (⟨a1_0, a1_1⟩ : S75), ()) = some (impl_IsOn.toH t) := by
  show Option.map _ (impl_IsOn.f a0_0 a0_1 a0_2 a0_3 a1_0 a1_1) = _
  rw [h]; rfl
theorem impl_IsOn.snd : Snd env impl_IsOn.spec := ⟨⟨Tryz.f200, by kernel_rfl, by kernel_rfl, by kernel_rfl⟩, fun k h r he w us hA => by
  obtain ⟨t, ht, rfl⟩ := Option.map_eq_some_iff.1 (show (impl_IsOn.f ((h.1 : S133).f0.f0) ((h.1 : S133).f0.f1) ((h.1 : S133).f1.f0) ((h.1 : S133).f1.f1) ((h.2.1 : S75).f0) ((h.2.1 : S75).f1)).map impl_IsOn.toH = some r from he)
  match us, hA with
  | [u0, u1], ⟨q0, q1, _⟩ =>
  obtain ⟨v0, rfl, q0⟩ := q0
  have q0 := (H133.K _ _ _).1 q0
  match e0 : v0.toList, q0 with
  | [c0_0, c0_1, c0_2, c0_3], ⟨p0_0, p0_1, p0_2, p0_3, _⟩ =>
  obtain rfl : v0 = #[c0_0, c0_1, c0_2, c0_3] := by rw [← Array.toArray_toList (xs := v0), e0]
  obtain rfl := List.singleton_inj.1 (show [c0_0] = [Value.int .i64 ((h.1 : S133).f0.f0)] from p0_0)
  obtain rfl := List.singleton_inj.1 (show [c0_1] = [Value.int .i64 ((h.1 : S133).f0.f1)] from p0_1)
  obtain rfl := List.singleton_inj.1 (show [c0_2] = [Value.int .i64 ((h.1 : S133).f1.f0)] from p0_2)
  obtain rfl := List.singleton_inj.1 (show [c0_3] = [Value.int .i64 ((h.1 : S133).f1.f1)] from p0_3)
  obtain ⟨v1, rfl, q1⟩ := q1
  have q1 := (H75.K _ _ _).1 q1
  match e1 : v1.toList, q1 with
  | [c1_0, c1_1], ⟨p1_0, p1_1, _⟩ =>
  obtain rfl : v1 = #[c1_0, c1_1] := by rw [← Array.toArray_toList (xs := v1), e1]
  obtain rfl := List.singleton_inj.1 (show [c1_0] = [Value.int .i64 ((h.2.1 : S75).f0)] from p1_0)
  obtain rfl := List.singleton_inj.1 (show [c1_1] = [Value.int .i64 ((h.2.1 : S75).f1)] from p1_1)
  refine (impl_IsOn.calls (w := w) (h := ht) ).mono ?_
  rintro e w' ⟨he, hw⟩
  exact ⟨_, he, hw, [.bool t], [fun _ => False], rfl, ⟨rfl, trivial⟩, by simp [DJ]⟩⟩
def impl_HowMeet.Fs : List (Spc env) := [impl_IsSegment.spec, impl_SideOf.spec, impl_forward.spec, impl_BeforePoint.spec, impl_IsOn.spec]
def impl_HowMeet.cut : Nat → Option (List (Lv SC)) := lk []
def impl_HowMeet.ret (r0 : Int) : Option (HL eΓ [.i .i64]) := some (r0, ())
def impl_HowMeet.run (k : Nat) (h : HL eΓ [.st .s133, .st .s133]) : Option (HL eΓ [.i .i64]) := evF env impl_HowMeet.Fs Tryz.f184 impl_HowMeet.cut [.st .s133, .st .s133] [.i .i64] k h
theorem impl_HowMeet.ef (k : Nat) (h0 : S133) (h1 : S133) : impl_HowMeet.run k (h0, h1, ()) = impl_IsSegment.ap k (⟨(⟨h0.f0.f0, h0.f0.f1⟩ : S75), (⟨h0.f1.f0, h0.f1.f1⟩ : S75)⟩ : S133) fun r1 => if (!r1) = true then (impl_HowMeet.ret 0) else (impl_IsSegment.ap k (⟨(⟨h1.f0.f0, h1.f0.f1⟩ : S75), (⟨h1.f1.f0, h1.f1.f1⟩ : S75)⟩ : S133) fun r2 => if (!r2) = true then (impl_HowMeet.ret 0) else (impl_SideOf.ap k (⟨h0.f0.f0, h0.f0.f1⟩ : S75) (⟨h0.f1.f0, h0.f1.f1⟩ : S75) (⟨h1.f0.f0, h1.f0.f1⟩ : S75) fun r3 => impl_SideOf.ap k (⟨h0.f0.f0, h0.f0.f1⟩ : S75) (⟨h0.f1.f0, h0.f1.f1⟩ : S75) (⟨h1.f1.f0, h1.f1.f1⟩ : S75) fun r4 => if r3 = 0 then (if r4 = 0 then (impl_forward.ap k (⟨(⟨h0.f0.f0, h0.f0.f1⟩ : S75), (⟨h0.f1.f0, h0.f1.f1⟩ : S75)⟩ : S133) fun r5 => impl_forward.ap k (⟨(⟨h1.f0.f0, h1.f0.f1⟩ : S75), (⟨h1.f1.f0, h1.f1.f1⟩ : S75)⟩ : S133) fun r6 => impl_BeforePoint.ap k (⟨r5.f0.f0, r5.f0.f1⟩ : S75) (⟨r6.f0.f0, r6.f0.f1⟩ : S75) fun r7 => if r7 = true then (impl_BeforePoint.ap k (⟨r6.f1.f0, r6.f1.f1⟩ : S75) (⟨r5.f1.f0, r5.f1.f1⟩ : S75) fun r8 => if r8 = true then (impl_BeforePoint.ap k (⟨r6.f1.f0, r6.f1.f1⟩ : S75) (⟨r6.f0.f0, r6.f0.f1⟩ : S75) fun r9 => if r9 = true then (impl_HowMeet.ret 0) else (if r6.f0.f0 = r6.f1.f0 ∧ (r6.f0.f1 = r6.f1.f1 ∧ True) then (impl_HowMeet.ret 1) else (impl_HowMeet.ret 3))) else (impl_BeforePoint.ap k (⟨r5.f1.f0, r5.f1.f1⟩ : S75) (⟨r6.f0.f0, r6.f0.f1⟩ : S75) fun r10 => if r10 = true then (impl_HowMeet.ret 0) else (if r6.f0.f0 = r5.f1.f0 ∧ (r6.f0.f1 = r5.f1.f1 ∧ True) then (impl_HowMeet.ret 1) else (impl_HowMeet.ret 3)))) else (impl_BeforePoint.ap k (⟨r6.f1.f0, r6.f1.f1⟩ : S75) (⟨r5.f1.f0, r5.f1.f1⟩ : S75) fun r11 => if r11 = true then (impl_BeforePoint.ap k (⟨r6.f1.f0, r6.f1.f1⟩ : S75) (⟨r5.f0.f0, r5.f0.f1⟩ : S75) fun r12 => if r12 = true then (impl_HowMeet.ret 0) else (if r5.f0.f0 = r6.f1.f0 ∧ (r5.f0.f1 = r6.f1.f1 ∧ True) then (impl_HowMeet.ret 1) else (impl_HowMeet.ret 3))) else (impl_BeforePoint.ap k (⟨r5.f1.f0, r5.f1.f1⟩ : S75) (⟨r5.f0.f0, r5.f0.f1⟩ : S75) fun r13 => if r13 = true then (impl_HowMeet.ret 0) else (if r5.f0.f0 = r5.f1.f0 ∧ (r5.f0.f1 = r5.f1.f1 ∧ True) then (impl_HowMeet.ret 1) else (impl_HowMeet.ret 3))))) else (if (wrap64 (r3 * r4)) < 0 then (impl_SideOf.ap k (⟨h1.f0.f0, h1.f0.f1⟩ : S75) (⟨h1.f1.f0, h1.f1.f1⟩ : S75) (⟨h0.f0.f0, h0.f0.f1⟩ : S75) fun r14 => impl_SideOf.ap k (⟨h1.f0.f0, h1.f0.f1⟩ : S75) (⟨h1.f1.f0, h1.f1.f1⟩ : S75) (⟨h0.f1.f0, h0.f1.f1⟩ : S75) fun r15 => if (wrap64 (r14 * r15)) < 0 then (impl_HowMeet.ret 2) else (impl_IsOn.ap k (⟨(⟨h0.f0.f0, h0.f0.f1⟩ : S75), (⟨h0.f1.f0, h0.f1.f1⟩ : S75)⟩ : S133) (⟨h1.f0.f0, h1.f0.f1⟩ : S75) fun r16 => if r16 = true then (impl_HowMeet.ret 1) else (impl_IsOn.ap k (⟨(⟨h0.f0.f0, h0.f0.f1⟩ : S75), (⟨h0.f1.f0, h0.f1.f1⟩ : S75)⟩ : S133) (⟨h1.f1.f0, h1.f1.f1⟩ : S75) fun r17 => if r17 = true then (impl_HowMeet.ret 1) else (impl_IsOn.ap k (⟨(⟨h1.f0.f0, h1.f0.f1⟩ : S75), (⟨h1.f1.f0, h1.f1.f1⟩ : S75)⟩ : S133) (⟨h0.f0.f0, h0.f0.f1⟩ : S75) fun r18 => if r18 = true then (impl_HowMeet.ret 1) else (impl_IsOn.ap k (⟨(⟨h1.f0.f0, h1.f0.f1⟩ : S75), (⟨h1.f1.f0, h1.f1.f1⟩ : S75)⟩ : S133) (⟨h0.f1.f0, h0.f1.f1⟩ : S75) fun r19 => if r19 = true then (impl_HowMeet.ret 1) else (impl_HowMeet.ret 0)))))) else (impl_IsOn.ap k (⟨(⟨h0.f0.f0, h0.f0.f1⟩ : S75), (⟨h0.f1.f0, h0.f1.f1⟩ : S75)⟩ : S133) (⟨h1.f0.f0, h1.f0.f1⟩ : S75) fun r20 => if r20 = true then (impl_HowMeet.ret 1) else (impl_IsOn.ap k (⟨(⟨h0.f0.f0, h0.f0.f1⟩ : S75), (⟨h0.f1.f0, h0.f1.f1⟩ : S75)⟩ : S133) (⟨h1.f1.f0, h1.f1.f1⟩ : S75) fun r21 => if r21 = true then (impl_HowMeet.ret 1) else (impl_IsOn.ap k (⟨(⟨h1.f0.f0, h1.f0.f1⟩ : S75), (⟨h1.f1.f0, h1.f1.f1⟩ : S75)⟩ : S133) (⟨h0.f0.f0, h0.f0.f1⟩ : S75) fun r22 => if r22 = true then (impl_HowMeet.ret 1) else (impl_IsOn.ap k (⟨(⟨h1.f0.f0, h1.f0.f1⟩ : S75), (⟨h1.f1.f0, h1.f1.f1⟩ : S75)⟩ : S133) (⟨h0.f1.f0, h0.f1.f1⟩ : S75) fun r23 => if r23 = true then (impl_HowMeet.ret 1) else (impl_HowMeet.ret 0))))))) else (if (wrap64 (r3 * r4)) < 0 then (impl_SideOf.ap k (⟨h1.f0.f0, h1.f0.f1⟩ : S75) (⟨h1.f1.f0, h1.f1.f1⟩ : S75) (⟨h0.f0.f0, h0.f0.f1⟩ : S75) fun r24 => impl_SideOf.ap k (⟨h1.f0.f0, h1.f0.f1⟩ : S75) (⟨h1.f1.f0, h1.f1.f1⟩ : S75) (⟨h0.f1.f0, h0.f1.f1⟩ : S75) fun r25 => if (wrap64 (r24 * r25)) < 0 then (impl_HowMeet.ret 2) else (impl_IsOn.ap k (⟨(⟨h0.f0.f0, h0.f0.f1⟩ : S75), (⟨h0.f1.f0, h0.f1.f1⟩ : S75)⟩ : S133) (⟨h1.f0.f0, h1.f0.f1⟩ : S75) fun r26 => if r26 = true then (impl_HowMeet.ret 1) else (impl_IsOn.ap k (⟨(⟨h0.f0.f0, h0.f0.f1⟩ : S75), (⟨h0.f1.f0, h0.f1.f1⟩ : S75)⟩ : S133) (⟨h1.f1.f0, h1.f1.f1⟩ : S75) fun r27 => if r27 = true then (impl_HowMeet.ret 1) else (impl_IsOn.ap k (⟨(⟨h1.f0.f0, h1.f0.f1⟩ : S75), (⟨h1.f1.f0, h1.f1.f1⟩ : S75)⟩ : S133) (⟨h0.f0.f0, h0.f0.f1⟩ : S75) fun r28 => if r28 = true then (impl_HowMeet.ret 1) else (impl_IsOn.ap k (⟨(⟨h1.f0.f0, h1.f0.f1⟩ : S75), (⟨h1.f1.f0, h1.f1.f1⟩ : S75)⟩ : S133) (⟨h0.f1.f0, h0.f1.f1⟩ : S75) fun r29 => if r29 = true then (impl_HowMeet.ret 1) else (impl_HowMeet.ret 0)))))) else (impl_IsOn.ap k (⟨(⟨h0.f0.f0, h0.f0.f1⟩ : S75), (⟨h0.f1.f0, h0.f1.f1⟩ : S75)⟩ : S133) (⟨h1.f0.f0, h1.f0.f1⟩ : S75) fun r30 => if r30 = true then (impl_HowMeet.ret 1) else (impl_IsOn.ap k (⟨(⟨h0.f0.f0, h0.f0.f1⟩ : S75), (⟨h0.f1.f0, h0.f1.f1⟩ : S75)⟩ : S133) (⟨h1.f1.f0, h1.f1.f1⟩ : S75) fun r31 => if r31 = true then (impl_HowMeet.ret 1) else (impl_IsOn.ap k (⟨(⟨h1.f0.f0, h1.f0.f1⟩ : S75), (⟨h1.f1.f0, h1.f1.f1⟩ : S75)⟩ : S133) (⟨h0.f0.f0, h0.f0.f1⟩ : S75) fun r32 => if r32 = true then (impl_HowMeet.ret 1) else (impl_IsOn.ap k (⟨(⟨h1.f0.f0, h1.f0.f1⟩ : S75), (⟨h1.f1.f0, h1.f1.f1⟩ : S75)⟩ : S133) (⟨h0.f1.f0, h0.f1.f1⟩ : S75) fun r33 => if r33 = true then (impl_HowMeet.ret 1) else (impl_HowMeet.ret 0)))))))) := by kernel_rfl
def impl_HowMeet.toH (t : Int) : HL eΓ [.i .i64] := (t, ())
def impl_HowMeet.spec : Spc env := ⟨184, [.st .s133, .st .s133], [.i .i64], impl_HowMeet.run⟩
def impl_HowMeet.ap {R : Type} (k : Nat) (h0 : S133) (h1 : S133) (K : Int → Option R) : Option R := (impl_HowMeet.run k (h0, h1, ())).bind fun r => K (r.1 : Int)
theorem impl_HowMeet.ap_of {R : Type} {k : Nat} {h0 : S133} {h1 : S133} {r0 : Int} {K : Int → Option R} (h : impl_HowMeet.run k (h0, h1, ()) = some (r0, ())) : impl_HowMeet.ap k h0 h1 K = K r0 := by unfold impl_HowMeet.ap; rw [h]; rfl
theorem impl_HowMeet.snd : Snd env impl_HowMeet.spec := evF_snd env_ok (sndC impl_IsSegment.snd (sndC impl_SideOf.snd (sndC impl_forward.snd (sndC impl_BeforePoint.snd (sndC impl_IsOn.snd (sndN))))))
attribute [local irreducible] impl_HowMeet.run
theorem impl_HowMeet.rt (a0 : Int) : impl_HowMeet.ret a0 = some (impl_HowMeet.toH (a0)) := rfl
theorem impl_HowMeet.go {k : Nat} {a0_0 : Int} {a0_1 : Int} {a0_2 : Int} {a0_3 : Int} {a1_0 : Int} {a1_1 : Int} {a1_2 : Int} {a1_3 : Int} {t} (h : impl_HowMeet.f k a0_0 a0_1 a0_2 a0_3 a1_0 a1_1 a1_2 a1_3 = some t) (K : Nat) (hK : k ≤ K) : impl_HowMeet.run K ((⟨(⟨a0_0, a0_1⟩ : S75), (⟨a0_2, a0_3⟩ : S75)⟩ : S133), (⟨(⟨a1_0, a1_1⟩ : S75), (⟨a1_2, a1_3⟩ : S75)⟩ : S133), ()) = some (impl_HowMeet.toH t) := by
  rw [impl_HowMeet.ef]
  (try dsimp only)
  unfold impl_HowMeet.f at h
  repeat' (with_reducible first
   | exact nos h
   | (cases some_inj h; exact impl_HowMeet.rt _)
   | ((have q : impl_HowMeet.j0 k _ _ _ _ _ _ _ _ _ = some _ := h; clear q); rcases k with _ | k <;> simp only [impl_HowMeet.j0, reduceCtorEq] at h)
   | ((have q : impl_HowMeet.j1 k _ _ _ _ _ _ _ _ _ _ _ = some _ := h; clear q); rcases k with _ | k <;> simp only [impl_HowMeet.j1, reduceCtorEq] at h)
   | ((have q : impl_HowMeet.j2 k _ _ _ _ _ _ _ _ = some _ := h; clear q); rcases k with _ | k <;> simp only [impl_HowMeet.j2, reduceCtorEq] at h)
   | ((have q : impl_HowMeet.j3 k _ _ _ _ = some _ := h; clear q); rcases k with _ | k <;> simp only [impl_HowMeet.j3, reduceCtorEq] at h)
   | ((have q : impl_HowMeet.j4 k _ _ _ _ _ _ _ _ _ = some _ := h; clear q); rcases k with _ | k <;> simp only [impl_HowMeet.j4, reduceCtorEq] at h)
   | (simp only [Option.bind_some] at h)
   | (refine ite_by h ?_ ?_ <;> (intro hc h; (try simp only [nrm] at hc)))
   | refine itT ?_
   | refine itF ?_
   | (refine bind_by h (fun t ht h => ?_); (first | refine (impl_IsSegment.ap_of (impl_IsSegment.go ht _)).trans ?_ | refine (impl_SideOf.ap_of (impl_SideOf.go ht _)).trans ?_ | refine (impl_forward.ap_of (impl_forward.go ht _)).trans ?_ | refine (impl_BeforePoint.ap_of (impl_BeforePoint.go ht _)).trans ?_ | refine (impl_IsOn.ap_of (impl_IsOn.go ht _)).trans ?_); (try dsimp only at h ⊢))
   | (simp only [nr2] at h ⊢)
   | (exfalso; omega))
def impl_IsRing.Fs : List (Spc env) := [impl_around.spec, impl_IsSegment.spec, impl_HowMeet.spec]
def impl_IsRing.fin : St eΓ → Option (HL eΓ [.b]) := finR env Tryz.f140.results.toList [.b]
def impl_IsRing.cut : Nat → Option (List (Lv SC)) := lk [(5, [⟨3, none, false⟩, ⟨18, none, false⟩, ⟨19, none, false⟩]), (10, [⟨3, none, false⟩, ⟨4, none, false⟩, ⟨18, none, false⟩, ⟨19, none, false⟩, ⟨28, none, false⟩, ⟨29, none, false⟩])]
def impl_IsRing.ret (r0 : Bool) : Option (HL eΓ [.b]) := some (r0, ())
def impl_IsRing.p5 (k : Nat) (x18 : Int) (x19 : Int) (x3 : List S133) : Option (HL eΓ [.b]) := evM env impl_IsRing.Fs Tryz.f140.ntmps impl_IsRing.fin impl_IsRing.cut k [.code (sub_ [1, 1, 1, 0, 1, 0, 0, 0] (bodyOf Tryz.f140)), .code (sub_ [1, 1, 1, 0, 1, 0, 0, 1] (bodyOf Tryz.f140)), .lp (sub_ [1, 1, 1, 0, 1, 0, 0] (bodyOf Tryz.f140)), .blk 0, .code (sub_ [1, 1, 1, 1] (bodyOf Tryz.f140))] (mkSt [(3, .c (.sl 0)), (18, .c (.v (.int .i64 x18))), (19, .c (.v (.int .i64 x19)))] [.row .own 133 (.st .s133) x3])
def impl_IsRing.p10 (k : Nat) (x4 : Int) (x18 : Int) (x19 : Int) (x28 : Int) (x29 : Int) (x3 : List S133) : Option (HL eΓ [.b]) := evM env impl_IsRing.Fs Tryz.f140.ntmps impl_IsRing.fin impl_IsRing.cut k [.code (sub_ [1, 1, 1, 0, 1, 0, 0, 1, 1, 0, 0, 1, 1, 1, 0, 0, 0] (bodyOf Tryz.f140)), .code (sub_ [1, 1, 1, 0, 1, 0, 0, 1, 1, 0, 0, 1, 1, 1, 0, 0, 1] (bodyOf Tryz.f140)), .lp (sub_ [1, 1, 1, 0, 1, 0, 0, 1, 1, 0, 0, 1, 1, 1, 0, 0] (bodyOf Tryz.f140)), .blk 2, .blk 1, .code (sub_ [1, 1, 1, 0, 1, 0, 0, 1, 1, 1] (bodyOf Tryz.f140)), .lp (sub_ [1, 1, 1, 0, 1, 0, 0] (bodyOf Tryz.f140)), .blk 0, .code (sub_ [1, 1, 1, 1] (bodyOf Tryz.f140))] (mkSt [(3, .c (.sl 0)), (4, .c (.v (.int .i64 x4))), (18, .c (.v (.int .i64 x18))), (19, .c (.v (.int .i64 x19))), (28, .c (.v (.int .i64 x28))), (29, .c (.v (.int .i64 x29)))] [.row .own 133 (.st .s133) x3])
theorem impl_IsRing.e5 (k : Nat) (x18 : Int) (x19 : Int) (x3 : List S133) : impl_IsRing.p5 (k + 1) x18 x19 x3 = if x19 < x18 then (if 0 ≤ x19 then (if x19 < (x3.length : Int) then (impl_IsSegment.ap k (⟨(⟨(rd_T133 x3 x19).f0.f0, (rd_T133 x3 x19).f0.f1⟩ : S75), (⟨(rd_T133 x3 x19).f1.f0, (rd_T133 x3 x19).f1.f1⟩ : S75)⟩ : S133) fun r1 => if (!r1) = true then (impl_IsRing.ret false) else (impl_IsRing.p10 k x19 x18 x19 x19 0 x3)) else none) else none) else (impl_IsRing.ret true) := by kernel_rfl
theorem impl_IsRing.e10 (k : Nat) (x4 : Int) (x18 : Int) (x19 : Int) (x28 : Int) (x29 : Int) (x3 : List S133) : impl_IsRing.p10 (k + 1) x4 x18 x19 x28 x29 x3 = if x29 < x28 then (if x29 = (wrap64 (x4 - 1)) then (if 0 ≤ x4 then (if x4 < (x3.length : Int) then (if 0 ≤ x29 then (if x29 < (x3.length : Int) then (impl_HowMeet.ap k (⟨(⟨(rd_T133 x3 x4).f0.f0, (rd_T133 x3 x4).f0.f1⟩ : S75), (⟨(rd_T133 x3 x4).f1.f0, (rd_T133 x3 x4).f1.f1⟩ : S75)⟩ : S133) (⟨(⟨(rd_T133 x3 x29).f0.f0, (rd_T133 x3 x29).f0.f1⟩ : S75), (⟨(rd_T133 x3 x29).f1.f0, (rd_T133 x3 x29).f1.f1⟩ : S75)⟩ : S133) fun r1 => if ¬ r1 = 1 then (impl_IsRing.ret false) else (impl_IsRing.p10 k x4 x18 x19 x28 (wrap64 (x29 + 1)) x3)) else none) else none) else none) else none) else (if x29 = 0 then (if x4 = (wrap64 ((x3.length : Int) - 1)) then (if 0 ≤ x4 then (if x4 < (x3.length : Int) then (if 0 ≤ x29 then (if x29 < (x3.length : Int) then (impl_HowMeet.ap k (⟨(⟨(rd_T133 x3 x4).f0.f0, (rd_T133 x3 x4).f0.f1⟩ : S75), (⟨(rd_T133 x3 x4).f1.f0, (rd_T133 x3 x4).f1.f1⟩ : S75)⟩ : S133) (⟨(⟨(rd_T133 x3 x29).f0.f0, (rd_T133 x3 x29).f0.f1⟩ : S75), (⟨(rd_T133 x3 x29).f1.f0, (rd_T133 x3 x29).f1.f1⟩ : S75)⟩ : S133) fun r2 => if ¬ r2 = 1 then (impl_IsRing.ret false) else (impl_IsRing.p10 k x4 x18 x19 x28 (wrap64 (x29 + 1)) x3)) else none) else none) else none) else none) else (if 0 ≤ x4 then (if x4 < (x3.length : Int) then (if 0 ≤ x29 then (if x29 < (x3.length : Int) then (impl_HowMeet.ap k (⟨(⟨(rd_T133 x3 x4).f0.f0, (rd_T133 x3 x4).f0.f1⟩ : S75), (⟨(rd_T133 x3 x4).f1.f0, (rd_T133 x3 x4).f1.f1⟩ : S75)⟩ : S133) (⟨(⟨(rd_T133 x3 x29).f0.f0, (rd_T133 x3 x29).f0.f1⟩ : S75), (⟨(rd_T133 x3 x29).f1.f0, (rd_T133 x3 x29).f1.f1⟩ : S75)⟩ : S133) fun r3 => if ¬ r3 = 0 then (impl_IsRing.ret false) else (impl_IsRing.p10 k x4 x18 x19 x28 (wrap64 (x29 + 1)) x3)) else none) else none) else none) else none)) else (if 0 ≤ x4 then (if x4 < (x3.length : Int) then (if 0 ≤ x29 then (if x29 < (x3.length : Int) then (impl_HowMeet.ap k (⟨(⟨(rd_T133 x3 x4).f0.f0, (rd_T133 x3 x4).f0.f1⟩ : S75), (⟨(rd_T133 x3 x4).f1.f0, (rd_T133 x3 x4).f1.f1⟩ : S75)⟩ : S133) (⟨(⟨(rd_T133 x3 x29).f0.f0, (rd_T133 x3 x29).f0.f1⟩ : S75), (⟨(rd_T133 x3 x29).f1.f0, (rd_T133 x3 x29).f1.f1⟩ : S75)⟩ : S133) fun r4 => if ¬ r4 = 0 then (impl_IsRing.ret false) else (impl_IsRing.p10 k x4 x18 x19 x28 (wrap64 (x29 + 1)) x3)) else none) else none) else none) else none))) else (impl_IsRing.p5 k x18 (wrap64 (x19 + 1)) x3) := by kernel_rfl
def impl_IsRing.run (k : Nat) (h : HL eΓ [.l 75 (.st .s75)]) : Option (HL eΓ [.b]) := evF env impl_IsRing.Fs Tryz.f140 impl_IsRing.cut [.l 75 (.st .s75)] [.b] k h
theorem impl_IsRing.ef (k : Nat) (h0 : List S75) : impl_IsRing.run k (h0, ()) = if (h0.length : Int) < 3 then (impl_IsRing.ret false) else (if (h0.length : Int) > 10 then (impl_IsRing.ret false) else (impl_around.ap k h0 fun r1 => impl_IsRing.p5 k (r1.length : Int) 0 r1)) := by kernel_rfl
def impl_IsRing.toH (t : Bool) : HL eΓ [.b] := (t, ())
def impl_IsRing.spec : Spc env := ⟨140, [.l 75 (.st .s75)], [.b], impl_IsRing.run⟩
def impl_IsRing.ap {R : Type} (k : Nat) (h0 : List S75) (K : Bool → Option R) : Option R := (impl_IsRing.run k (h0, ())).bind fun r => K (r.1 : Bool)
theorem impl_IsRing.ap_of {R : Type} {k : Nat} {h0 : List S75} {r0 : Bool} {K : Bool → Option R} (h : impl_IsRing.run k (h0, ()) = some (r0, ())) : impl_IsRing.ap k h0 K = K r0 := by unfold impl_IsRing.ap; rw [h]; rfl
theorem impl_IsRing.snd : Snd env impl_IsRing.spec := evF_snd env_ok (sndC impl_around.snd (sndC impl_IsSegment.snd (sndC impl_HowMeet.snd (sndN))))
attribute [local irreducible] impl_IsRing.run
theorem impl_IsRing.rt (a0 : Bool) : impl_IsRing.ret a0 = some (impl_IsRing.toH (a0)) := rfl
theorem impl_IsRing.br (n : Nat) : (∀ K, n ≤ K → ∀ (x18 : Int) (x19 : Int) (x3 : List S133) t, impl_IsRing.l0 n x3 x18 x19 = some t → impl_IsRing.p5 K x18 x19 x3 = some (impl_IsRing.toH t)) ∧ (∀ K, n ≤ K → ∀ (x4 : Int) (x18 : Int) (x19 : Int) (x28 : Int) (x29 : Int) (x3 : List S133) t, impl_IsRing.l1 n x3 x4 x18 x19 x28 x29 = some t → impl_IsRing.p10 K x4 x18 x19 x28 x29 x3 = some (impl_IsRing.toH t)) := by
  induction n using Nat.strongRecOn with
  | _ n ih =>
  refine ⟨fun K hK x18 x19 x3 t h => ?_, fun K hK x4 x18 x19 x28 x29 x3 t h => ?_⟩
  all_goals (rcases n with _ | k)
  all_goals (try (exact nos h))
  all_goals (obtain ⟨K, rfl⟩ : ∃ q, K = q + 1 := ⟨K - 1, by omega⟩)
  all_goals (first | rw [impl_IsRing.e5] | rw [impl_IsRing.e10])
  all_goals (simp only [impl_IsRing.l0, impl_IsRing.l1] at h)
  repeat' (with_reducible first
   | exact nos h
   | (cases some_inj h; exact impl_IsRing.rt _)
   | exact (ih _ (by omega)).1 _ (by omega) _ _ _ _ h
   | exact (ih _ (by omega)).2 _ (by omega) _ _ _ _ _ _ _ h
   | ((have q : impl_IsRing.j0 k _ _ = some _ := h; clear q); rcases k with _ | k <;> simp only [impl_IsRing.j0, reduceCtorEq] at h)
   | ((have q : impl_IsRing.j3 k _ _ _ _ _ _ _ _ _ = some _ := h; clear q); rcases k with _ | k <;> simp only [impl_IsRing.j3, reduceCtorEq] at h)
   | (simp only [Option.bind_some] at h)
   | (refine ite_by h ?_ ?_ <;> (intro hc h; (try simp only [nrm] at hc)))
   | refine itT ?_
   | refine itF ?_
   | (refine bind_by h (fun t ht h => ?_); (first | refine (impl_around.ap_of (impl_around.go ht _ (by omega))).trans ?_ | refine (impl_IsSegment.ap_of (impl_IsSegment.go ht _)).trans ?_ | refine (impl_HowMeet.ap_of (impl_HowMeet.go ht _ (by omega))).trans ?_); (try dsimp only at h ⊢))
   | (simp only [nr2] at h ⊢)
   | (exfalso; omega))
theorem impl_IsRing.go {k : Nat} {l0 : List S75} {t} (h : impl_IsRing.f k l0 = some t) (K : Nat) (hK : k ≤ K) : impl_IsRing.run K (l0, ()) = some (impl_IsRing.toH t) := by
  rw [impl_IsRing.ef]
  (try dsimp only)
  unfold impl_IsRing.f at h
  repeat' (with_reducible first
   | exact nos h
   | (cases some_inj h; exact impl_IsRing.rt _)
   | exact (impl_IsRing.br _).1 _ (by omega) _ _ _ _ h
   | exact (impl_IsRing.br _).2 _ (by omega) _ _ _ _ _ _ _ h
   | ((have q : impl_IsRing.j0 k _ _ = some _ := h; clear q); rcases k with _ | k <;> simp only [impl_IsRing.j0, reduceCtorEq] at h)
   | ((have q : impl_IsRing.j3 k _ _ _ _ _ _ _ _ _ = some _ := h; clear q); rcases k with _ | k <;> simp only [impl_IsRing.j3, reduceCtorEq] at h)
   | (simp only [Option.bind_some] at h)
   | (refine ite_by h ?_ ?_ <;> (intro hc h; (try simp only [nrm] at hc)))
   | refine itT ?_
   | refine itF ?_
   | (refine bind_by h (fun t ht h => ?_); (first | refine (impl_around.ap_of (impl_around.go ht _ (by omega))).trans ?_ | refine (impl_IsSegment.ap_of (impl_IsSegment.go ht _)).trans ?_ | refine (impl_HowMeet.ap_of (impl_HowMeet.go ht _ (by omega))).trans ?_); (try dsimp only at h ⊢))
   | (simp only [nr2] at h ⊢)
   | (exfalso; omega))
def impl_IsLine.Fs : List (Spc env) := [impl_IsPoint.spec]
def impl_IsLine.fin : St eΓ → Option (HL eΓ [.b]) := finR env Tryz.f189.results.toList [.b]
def impl_IsLine.cut : Nat → Option (List (Lv SC)) := lk [(4, [⟨0, none, false⟩, ⟨13, none, false⟩, ⟨14, none, false⟩, ⟨15, none, false⟩])]
def impl_IsLine.ret (r0 : Bool) : Option (HL eΓ [.b]) := some (r0, ())
def impl_IsLine.p4 (k : Nat) (x14 : Int) (x15 : Int) (x0 : List S75) : Option (HL eΓ [.b]) := evM env impl_IsLine.Fs Tryz.f189.ntmps impl_IsLine.fin impl_IsLine.cut k [.code (sub_ [1, 1, 0, 1, 0, 0, 0] (bodyOf Tryz.f189)), .code (sub_ [1, 1, 0, 1, 0, 0, 1] (bodyOf Tryz.f189)), .lp (sub_ [1, 1, 0, 1, 0, 0] (bodyOf Tryz.f189)), .blk 0, .code (sub_ [1, 1, 1] (bodyOf Tryz.f189))] (mkSt [(0, .c (.sl 0)), (13, .c (.sl 0)), (14, .c (.v (.int .i64 x14))), (15, .c (.v (.int .i64 x15)))] [.row .ro 75 (.st .s75) x0])
theorem impl_IsLine.e4 (k : Nat) (x14 : Int) (x15 : Int) (x0 : List S75) : impl_IsLine.p4 (k + 1) x14 x15 x0 = if x15 < x14 then (if 0 ≤ x15 then (if x15 < (x0.length : Int) then (impl_IsPoint.ap k (⟨(rd_T75 x0 x15).f0, (rd_T75 x0 x15).f1⟩ : S75) fun r1 => if (!r1) = true then (impl_IsLine.ret false) else (if x15 > 0 then (if 0 ≤ (wrap64 (x15 - 1)) then (if (wrap64 (x15 - 1)) < (x0.length : Int) then (if ((rd_T75 x0 x15).f0) = ((rd_T75 x0 (wrap64 (x15 - 1))).f0) ∧ (((rd_T75 x0 x15).f1) = ((rd_T75 x0 (wrap64 (x15 - 1))).f1) ∧ True) then (impl_IsLine.ret false) else (impl_IsLine.p4 k x14 (wrap64 (x15 + 1)) x0)) else none) else none) else (impl_IsLine.p4 k x14 (wrap64 (x15 + 1)) x0))) else none) else none) else (impl_IsLine.ret true) := by kernel_rfl
def impl_IsLine.run (k : Nat) (h : HL eΓ [.l 75 (.st .s75)]) : Option (HL eΓ [.b]) := evF env impl_IsLine.Fs Tryz.f189 impl_IsLine.cut [.l 75 (.st .s75)] [.b] k h
theorem impl_IsLine.ef (k : Nat) (h0 : List S75) : impl_IsLine.run k (h0, ()) = if (h0.length : Int) < 2 then (impl_IsLine.ret false) else (if (h0.length : Int) > 10 then (impl_IsLine.ret false) else (impl_IsLine.p4 k (h0.length : Int) 0 h0)) := by kernel_rfl
def impl_IsLine.toH (t : Bool) : HL eΓ [.b] := (t, ())
def impl_IsLine.spec : Spc env := ⟨189, [.l 75 (.st .s75)], [.b], impl_IsLine.run⟩
def impl_IsLine.ap {R : Type} (k : Nat) (h0 : List S75) (K : Bool → Option R) : Option R := (impl_IsLine.run k (h0, ())).bind fun r => K (r.1 : Bool)
theorem impl_IsLine.ap_of {R : Type} {k : Nat} {h0 : List S75} {r0 : Bool} {K : Bool → Option R} (h : impl_IsLine.run k (h0, ()) = some (r0, ())) : impl_IsLine.ap k h0 K = K r0 := by unfold impl_IsLine.ap; rw [h]; rfl
theorem impl_IsLine.snd : Snd env impl_IsLine.spec := evF_snd env_ok (sndC impl_IsPoint.snd (sndN))
attribute [local irreducible] impl_IsLine.run
theorem impl_IsLine.rt (a0 : Bool) : impl_IsLine.ret a0 = some (impl_IsLine.toH (a0)) := rfl
theorem impl_IsLine.br (n : Nat) : (∀ K, n ≤ K → ∀ (x14 : Int) (x15 : Int) (x0 : List S75) t, impl_IsLine.l0 n x0 x0 x14 x15 = some t → impl_IsLine.p4 K x14 x15 x0 = some (impl_IsLine.toH t)) := by
  induction n using Nat.strongRecOn with
  | _ n ih =>
  intro K hK x14 x15 x0 t h
  all_goals (rcases n with _ | k)
  all_goals (try (exact nos h))
  all_goals (obtain ⟨K, rfl⟩ : ∃ q, K = q + 1 := ⟨K - 1, by omega⟩)
  all_goals (first | rw [impl_IsLine.e4])
  all_goals (simp only [impl_IsLine.l0] at h)
  repeat' (with_reducible first
   | exact nos h
   | (cases some_inj h; exact impl_IsLine.rt _)
   | exact (ih _ (by omega)) _ (by omega) _ _ _ _ h
   | ((have q : impl_IsLine.j0 k _ _ = some _ := h; clear q); rcases k with _ | k <;> simp only [impl_IsLine.j0, reduceCtorEq] at h)
   | (simp only [Option.bind_some] at h)
   | (refine ite_by h ?_ ?_ <;> (intro hc h; (try simp only [nrm] at hc)))
   | refine itT ?_
   | refine itF ?_
   | (refine bind_by h (fun t ht h => ?_); refine (impl_IsPoint.ap_of (impl_IsPoint.go ht _)).trans ?_; (try dsimp only at h ⊢))
   | (simp only [nr2] at h ⊢)
   | (exfalso; omega))
theorem impl_IsLine.go {k : Nat} {l0 : List S75} {t} (h : impl_IsLine.f k l0 = some t) (K : Nat) (hK : k ≤ K) : impl_IsLine.run K (l0, ()) = some (impl_IsLine.toH t) := by
  rw [impl_IsLine.ef]
  (try dsimp only)
  unfold impl_IsLine.f at h
  repeat' (with_reducible first
   | exact nos h
   | (cases some_inj h; exact impl_IsLine.rt _)
   | exact (impl_IsLine.br _) _ (by omega) _ _ _ _ h
   | ((have q : impl_IsLine.j0 k _ _ = some _ := h; clear q); rcases k with _ | k <;> simp only [impl_IsLine.j0, reduceCtorEq] at h)
   | (simp only [Option.bind_some] at h)
   | (refine ite_by h ?_ ?_ <;> (intro hc h; (try simp only [nrm] at hc)))
   | refine itT ?_
   | refine itF ?_
   | (refine bind_by h (fun t ht h => ?_); refine (impl_IsPoint.ap_of (impl_IsPoint.go ht _)).trans ?_; (try dsimp only at h ⊢))
   | (simp only [nr2] at h ⊢)
   | (exfalso; omega))
def impl_SegmentsOf.Fs : List (Spc env) := [impl_IsLine.spec]
def impl_SegmentsOf.fin : St eΓ → Option (HL eΓ [.l 133 (.st .s133)]) := finR env Tryz.f169.results.toList [.l 133 (.st .s133)]
def impl_SegmentsOf.cut : Nat → Option (List (Lv SC)) := lk [(5, [⟨0, none, false⟩, ⟨3, none, false⟩, ⟨4, none, false⟩])]
def impl_SegmentsOf.ret (r0 : List S133) : Option (HL eΓ [.l 133 (.st .s133)]) := some (r0, ())
def impl_SegmentsOf.p5 (k : Nat) (x4 : Int) (x0 : List S75) (x3 : List S133) : Option (HL eΓ [.l 133 (.st .s133)]) := evM env impl_SegmentsOf.Fs Tryz.f169.ntmps impl_SegmentsOf.fin impl_SegmentsOf.cut k [.code (sub_ [1, 1, 1, 0, 1, 0, 0, 0, 0] (bodyOf Tryz.f169)), .code (sub_ [1, 1, 1, 0, 1, 0, 0, 0, 1] (bodyOf Tryz.f169)), .code (sub_ [1, 1, 1, 0, 1, 0, 0, 1] (bodyOf Tryz.f169)), .lp (sub_ [1, 1, 1, 0, 1, 0, 0] (bodyOf Tryz.f169)), .blk 0, .code (sub_ [1, 1, 1, 1] (bodyOf Tryz.f169))] (mkSt [(0, .c (.sl 0)), (3, .c (.sl 1)), (4, .c (.v (.int .i64 x4)))] [.row .ro 75 (.st .s75) x0, .row .own 133 (.st .s133) x3])
theorem impl_SegmentsOf.e5 (k : Nat) (x4 : Int) (x0 : List S75) (x3 : List S133) : impl_SegmentsOf.p5 (k + 1) x4 x0 x3 = if x4 < (x0.length : Int) then (if 0 ≤ (wrap64 (x4 - 1)) then (if (wrap64 (x4 - 1)) < (x0.length : Int) then (if 0 ≤ x4 then (if x4 < (x0.length : Int) then (if (x3.length + 1) * 32 ≤ 140737488355328 then (impl_SegmentsOf.p5 k (wrap64 (x4 + 1)) x0 (x3 ++ [(⟨(⟨(rd_T75 x0 (wrap64 (x4 - 1))).f0, (rd_T75 x0 (wrap64 (x4 - 1))).f1⟩ : S75), (⟨(rd_T75 x0 x4).f0, (rd_T75 x0 x4).f1⟩ : S75)⟩ : S133)])) else none) else none) else none) else none) else none) else (impl_SegmentsOf.ret x3) := by kernel_rfl
def impl_SegmentsOf.run (k : Nat) (h : HL eΓ [.l 75 (.st .s75)]) : Option (HL eΓ [.l 133 (.st .s133)]) := evF env impl_SegmentsOf.Fs Tryz.f169 impl_SegmentsOf.cut [.l 75 (.st .s75)] [.l 133 (.st .s133)] k h
theorem impl_SegmentsOf.ef (k : Nat) (h0 : List S75) : impl_SegmentsOf.run k (h0, ()) = impl_IsLine.ap k h0 fun r1 => if (!r1) = true then (impl_SegmentsOf.ret ([] : List S133)) else (impl_SegmentsOf.p5 k 1 h0 ([] : List S133)) := by kernel_rfl
def impl_SegmentsOf.toH (t : (List (S133))) : HL eΓ [.l 133 (.st .s133)] := (t, ())
def impl_SegmentsOf.spec : Spc env := ⟨169, [.l 75 (.st .s75)], [.l 133 (.st .s133)], impl_SegmentsOf.run⟩
def impl_SegmentsOf.ap {R : Type} (k : Nat) (h0 : List S75) (K : (List S133) → Option R) : Option R := (impl_SegmentsOf.run k (h0, ())).bind fun r => K (r.1 : List S133)
theorem impl_SegmentsOf.ap_of {R : Type} {k : Nat} {h0 : List S75} {r0 : List S133} {K : (List S133) → Option R} (h : impl_SegmentsOf.run k (h0, ()) = some (r0, ())) : impl_SegmentsOf.ap k h0 K = K r0 := by unfold impl_SegmentsOf.ap; rw [h]; rfl
theorem impl_SegmentsOf.snd : Snd env impl_SegmentsOf.spec := evF_snd env_ok (sndC impl_IsLine.snd (sndN))
attribute [local irreducible] impl_SegmentsOf.run
theorem impl_SegmentsOf.rt (a0 : List S133) : impl_SegmentsOf.ret a0 = some (impl_SegmentsOf.toH (a0)) := rfl
theorem impl_SegmentsOf.br (n : Nat) : (∀ K, n ≤ K → ∀ (x4 : Int) (x0 : List S75) (x3 : List S133) t, impl_SegmentsOf.l0 n x0 x3 x4 = some t → impl_SegmentsOf.p5 K x4 x0 x3 = some (impl_SegmentsOf.toH t)) := by
  induction n using Nat.strongRecOn with
  | _ n ih =>
  intro K hK x4 x0 x3 t h
  all_goals (rcases n with _ | k)
  all_goals (try (exact nos h))
  all_goals (obtain ⟨K, rfl⟩ : ∃ q, K = q + 1 := ⟨K - 1, by omega⟩)
  all_goals (first | rw [impl_SegmentsOf.e5])
  all_goals (simp only [impl_SegmentsOf.l0] at h)
  repeat' (with_reducible first
   | exact nos h
   | (cases some_inj h; exact impl_SegmentsOf.rt _)
   | exact (ih _ (by omega)) _ (by omega) _ _ _ _ h
   | (simp only [Option.bind_some] at h)
   | (refine ite_by h ?_ ?_ <;> (intro hc h; (try simp only [nrm] at hc)))
   | refine itT ?_
   | refine itF ?_
   | (refine bind_by h (fun t ht h => ?_); refine (impl_IsLine.ap_of (impl_IsLine.go ht _ (by omega))).trans ?_; (try dsimp only at h ⊢))
   | (simp only [nr2] at h ⊢)
   | (exfalso; omega))
theorem impl_SegmentsOf.go {k : Nat} {l0 : List S75} {t} (h : impl_SegmentsOf.f k l0 = some t) (K : Nat) (hK : k ≤ K) : impl_SegmentsOf.run K (l0, ()) = some (impl_SegmentsOf.toH t) := by
  rw [impl_SegmentsOf.ef]
  (try dsimp only)
  unfold impl_SegmentsOf.f at h
  repeat' (with_reducible first
   | exact nos h
   | (cases some_inj h; exact impl_SegmentsOf.rt _)
   | exact (impl_SegmentsOf.br _) _ (by omega) _ _ _ _ h
   | (simp only [Option.bind_some] at h)
   | (refine ite_by h ?_ ?_ <;> (intro hc h; (try simp only [nrm] at hc)))
   | refine itT ?_
   | refine itF ?_
   | (refine bind_by h (fun t ht h => ?_); refine (impl_IsLine.ap_of (impl_IsLine.go ht _ (by omega))).trans ?_; (try dsimp only at h ⊢))
   | (simp only [nr2] at h ⊢)
   | (exfalso; omega))
def impl_IsSimple.Fs : List (Spc env) := [impl_IsLine.spec, impl_SegmentsOf.spec, impl_HowMeet.spec]
def impl_IsSimple.fin : St eΓ → Option (HL eΓ [.b]) := finR env Tryz.f151.results.toList [.b]
def impl_IsSimple.cut : Nat → Option (List (Lv SC)) := lk [(5, [⟨3, none, false⟩, ⟨13, none, false⟩, ⟨14, none, false⟩]), (8, [⟨3, none, false⟩, ⟨4, none, false⟩, ⟨13, none, false⟩, ⟨14, none, false⟩, ⟨17, none, false⟩, ⟨18, none, false⟩])]
def impl_IsSimple.ret (r0 : Bool) : Option (HL eΓ [.b]) := some (r0, ())
def impl_IsSimple.p5 (k : Nat) (x13 : Int) (x14 : Int) (x3 : List S133) : Option (HL eΓ [.b]) := evM env impl_IsSimple.Fs Tryz.f151.ntmps impl_IsSimple.fin impl_IsSimple.cut k [.code (sub_ [1, 1, 1, 0, 1, 0, 0, 0] (bodyOf Tryz.f151)), .code (sub_ [1, 1, 1, 0, 1, 0, 0, 1] (bodyOf Tryz.f151)), .lp (sub_ [1, 1, 1, 0, 1, 0, 0] (bodyOf Tryz.f151)), .blk 0, .code (sub_ [1, 1, 1, 1] (bodyOf Tryz.f151))] (mkSt [(3, .c (.sl 0)), (13, .c (.v (.int .i64 x13))), (14, .c (.v (.int .i64 x14)))] [.row .own 133 (.st .s133) x3])
def impl_IsSimple.p8 (k : Nat) (x4 : Int) (x13 : Int) (x14 : Int) (x17 : Int) (x18 : Int) (x3 : List S133) : Option (HL eΓ [.b]) := evM env impl_IsSimple.Fs Tryz.f151.ntmps impl_IsSimple.fin impl_IsSimple.cut k [.code (sub_ [1, 1, 1, 0, 1, 0, 0, 1, 1, 0, 0, 1, 1, 0, 0, 0] (bodyOf Tryz.f151)), .code (sub_ [1, 1, 1, 0, 1, 0, 0, 1, 1, 0, 0, 1, 1, 0, 0, 1] (bodyOf Tryz.f151)), .lp (sub_ [1, 1, 1, 0, 1, 0, 0, 1, 1, 0, 0, 1, 1, 0, 0] (bodyOf Tryz.f151)), .blk 2, .blk 1, .code (sub_ [1, 1, 1, 0, 1, 0, 0, 1, 1, 1] (bodyOf Tryz.f151)), .lp (sub_ [1, 1, 1, 0, 1, 0, 0] (bodyOf Tryz.f151)), .blk 0, .code (sub_ [1, 1, 1, 1] (bodyOf Tryz.f151))] (mkSt [(3, .c (.sl 0)), (4, .c (.v (.int .i64 x4))), (13, .c (.v (.int .i64 x13))), (14, .c (.v (.int .i64 x14))), (17, .c (.v (.int .i64 x17))), (18, .c (.v (.int .i64 x18)))] [.row .own 133 (.st .s133) x3])
theorem impl_IsSimple.e5 (k : Nat) (x13 : Int) (x14 : Int) (x3 : List S133) : impl_IsSimple.p5 (k + 1) x13 x14 x3 = if x14 < x13 then (impl_IsSimple.p8 k x14 x13 x14 x14 0 x3) else (impl_IsSimple.ret true) := by kernel_rfl
theorem impl_IsSimple.e8 (k : Nat) (x4 : Int) (x13 : Int) (x14 : Int) (x17 : Int) (x18 : Int) (x3 : List S133) : impl_IsSimple.p8 (k + 1) x4 x13 x14 x17 x18 x3 = if x18 < x17 then (if x18 = (wrap64 (x4 - 1)) then (if 0 ≤ x4 then (if x4 < (x3.length : Int) then (if 0 ≤ x18 then (if x18 < (x3.length : Int) then (impl_HowMeet.ap k (⟨(⟨(rd_T133 x3 x4).f0.f0, (rd_T133 x3 x4).f0.f1⟩ : S75), (⟨(rd_T133 x3 x4).f1.f0, (rd_T133 x3 x4).f1.f1⟩ : S75)⟩ : S133) (⟨(⟨(rd_T133 x3 x18).f0.f0, (rd_T133 x3 x18).f0.f1⟩ : S75), (⟨(rd_T133 x3 x18).f1.f0, (rd_T133 x3 x18).f1.f1⟩ : S75)⟩ : S133) fun r1 => if ¬ r1 = 1 then (impl_IsSimple.ret false) else (impl_IsSimple.p8 k x4 x13 x14 x17 (wrap64 (x18 + 1)) x3)) else none) else none) else none) else none) else (if 0 ≤ x4 then (if x4 < (x3.length : Int) then (if 0 ≤ x18 then (if x18 < (x3.length : Int) then (impl_HowMeet.ap k (⟨(⟨(rd_T133 x3 x4).f0.f0, (rd_T133 x3 x4).f0.f1⟩ : S75), (⟨(rd_T133 x3 x4).f1.f0, (rd_T133 x3 x4).f1.f1⟩ : S75)⟩ : S133) (⟨(⟨(rd_T133 x3 x18).f0.f0, (rd_T133 x3 x18).f0.f1⟩ : S75), (⟨(rd_T133 x3 x18).f1.f0, (rd_T133 x3 x18).f1.f1⟩ : S75)⟩ : S133) fun r2 => if ¬ r2 = 0 then (impl_IsSimple.ret false) else (impl_IsSimple.p8 k x4 x13 x14 x17 (wrap64 (x18 + 1)) x3)) else none) else none) else none) else none)) else (impl_IsSimple.p5 k x13 (wrap64 (x14 + 1)) x3) := by kernel_rfl
def impl_IsSimple.run (k : Nat) (h : HL eΓ [.l 75 (.st .s75)]) : Option (HL eΓ [.b]) := evF env impl_IsSimple.Fs Tryz.f151 impl_IsSimple.cut [.l 75 (.st .s75)] [.b] k h
theorem impl_IsSimple.ef (k : Nat) (h0 : List S75) : impl_IsSimple.run k (h0, ()) = impl_IsLine.ap k h0 fun r1 => if (!r1) = true then (impl_IsSimple.ret false) else (impl_SegmentsOf.ap k h0 fun r2 => impl_IsSimple.p5 k (r2.length : Int) 0 r2) := by kernel_rfl
def impl_IsSimple.toH (t : Bool) : HL eΓ [.b] := (t, ())
def impl_IsSimple.spec : Spc env := ⟨151, [.l 75 (.st .s75)], [.b], impl_IsSimple.run⟩
def impl_IsSimple.ap {R : Type} (k : Nat) (h0 : List S75) (K : Bool → Option R) : Option R := (impl_IsSimple.run k (h0, ())).bind fun r => K (r.1 : Bool)
theorem impl_IsSimple.ap_of {R : Type} {k : Nat} {h0 : List S75} {r0 : Bool} {K : Bool → Option R} (h : impl_IsSimple.run k (h0, ()) = some (r0, ())) : impl_IsSimple.ap k h0 K = K r0 := by unfold impl_IsSimple.ap; rw [h]; rfl
theorem impl_IsSimple.snd : Snd env impl_IsSimple.spec := evF_snd env_ok (sndC impl_IsLine.snd (sndC impl_SegmentsOf.snd (sndC impl_HowMeet.snd (sndN))))
attribute [local irreducible] impl_IsSimple.run
theorem impl_IsSimple.rt (a0 : Bool) : impl_IsSimple.ret a0 = some (impl_IsSimple.toH (a0)) := rfl
theorem impl_IsSimple.br (n : Nat) : (∀ K, n ≤ K → ∀ (x13 : Int) (x14 : Int) (x3 : List S133) t, impl_IsSimple.l0 n x3 x13 x14 = some t → impl_IsSimple.p5 K x13 x14 x3 = some (impl_IsSimple.toH t)) ∧ (∀ K, n ≤ K → ∀ (x4 : Int) (x13 : Int) (x14 : Int) (x17 : Int) (x18 : Int) (x3 : List S133) t, impl_IsSimple.l1 n x3 x4 x13 x14 x17 x18 = some t → impl_IsSimple.p8 K x4 x13 x14 x17 x18 x3 = some (impl_IsSimple.toH t)) := by
  induction n using Nat.strongRecOn with
  | _ n ih =>
  refine ⟨fun K hK x13 x14 x3 t h => ?_, fun K hK x4 x13 x14 x17 x18 x3 t h => ?_⟩
  all_goals (rcases n with _ | k)
  all_goals (try (exact nos h))
  all_goals (obtain ⟨K, rfl⟩ : ∃ q, K = q + 1 := ⟨K - 1, by omega⟩)
  all_goals (first | rw [impl_IsSimple.e5] | rw [impl_IsSimple.e8])
  all_goals (simp only [impl_IsSimple.l0, impl_IsSimple.l1] at h)
  repeat' (with_reducible first
   | exact nos h
   | (cases some_inj h; exact impl_IsSimple.rt _)
   | exact (ih _ (by omega)).1 _ (by omega) _ _ _ _ h
   | exact (ih _ (by omega)).2 _ (by omega) _ _ _ _ _ _ _ h
   | (simp only [Option.bind_some] at h)
   | (refine ite_by h ?_ ?_ <;> (intro hc h; (try simp only [nrm] at hc)))
   | refine itT ?_
   | refine itF ?_
   | (refine bind_by h (fun t ht h => ?_); (first | refine (impl_IsLine.ap_of (impl_IsLine.go ht _ (by omega))).trans ?_ | refine (impl_SegmentsOf.ap_of (impl_SegmentsOf.go ht _ (by omega))).trans ?_ | refine (impl_HowMeet.ap_of (impl_HowMeet.go ht _ (by omega))).trans ?_); (try dsimp only at h ⊢))
   | (simp only [nr2] at h ⊢)
   | (exfalso; omega))
theorem impl_IsSimple.go {k : Nat} {l0 : List S75} {t} (h : impl_IsSimple.f k l0 = some t) (K : Nat) (hK : k ≤ K) : impl_IsSimple.run K (l0, ()) = some (impl_IsSimple.toH t) := by
  rw [impl_IsSimple.ef]
  (try dsimp only)
  unfold impl_IsSimple.f at h
  repeat' (with_reducible first
   | exact nos h
   | (cases some_inj h; exact impl_IsSimple.rt _)
   | exact (impl_IsSimple.br _).1 _ (by omega) _ _ _ _ h
   | exact (impl_IsSimple.br _).2 _ (by omega) _ _ _ _ _ _ _ h
   | (simp only [Option.bind_some] at h)
   | (refine ite_by h ?_ ?_ <;> (intro hc h; (try simp only [nrm] at hc)))
   | refine itT ?_
   | refine itF ?_
   | (refine bind_by h (fun t ht h => ?_); (first | refine (impl_IsLine.ap_of (impl_IsLine.go ht _ (by omega))).trans ?_ | refine (impl_SegmentsOf.ap_of (impl_SegmentsOf.go ht _ (by omega))).trans ?_ | refine (impl_HowMeet.ap_of (impl_HowMeet.go ht _ (by omega))).trans ?_); (try dsimp only at h ⊢))
   | (simp only [nr2] at h ⊢)
   | (exfalso; omega))
def impl_IsFeature.Fs : List (Spc env) := [impl_InRange.spec, impl_IsName.spec, impl_IsPoint.spec, impl_IsSimple.spec, impl_IsRing.spec]
def impl_IsFeature.cut : Nat → Option (List (Lv SC)) := lk []
def impl_IsFeature.ret (r0 : Bool) : Option (HL eΓ [.b]) := some (r0, ())
def impl_IsFeature.run (k : Nat) (h : HL eΓ [.st .s59]) : Option (HL eΓ [.b]) := evF env impl_IsFeature.Fs Tryz.f114 impl_IsFeature.cut [.st .s59] [.b] k h
theorem impl_IsFeature.ef (k : Nat) (h0 : S59) : impl_IsFeature.run k (h0, ()) = impl_InRange.ap k h0.f0 1 99 fun r1 => if (!r1) = true then (impl_IsFeature.ret false) else (impl_InRange.ap k h0.f2 0 9 fun r2 => if (!r2) = true then (impl_IsFeature.ret false) else (if ¬ h0.f3.toList = [] then (impl_IsName.ap k h0.f3 fun r3 => if (!r3) = true then (impl_IsFeature.ret false) else (if h0.f1 = 1 then (if (h0.f4.length : Int) = 1 then (if 0 < (h0.f4.length : Int) then (impl_IsPoint.ap k (⟨(rd_T75 h0.f4 0).f0, (rd_T75 h0.f4 0).f1⟩ : S75) fun r4 => impl_IsFeature.ret r4) else none) else (impl_IsFeature.ret false)) else (if h0.f1 = 2 then (impl_IsSimple.ap k h0.f4 fun r5 => impl_IsFeature.ret r5) else (if h0.f1 = 3 then (impl_IsRing.ap k h0.f4 fun r6 => impl_IsFeature.ret r6) else (impl_IsFeature.ret false))))) else (if h0.f1 = 1 then (if (h0.f4.length : Int) = 1 then (if 0 < (h0.f4.length : Int) then (impl_IsPoint.ap k (⟨(rd_T75 h0.f4 0).f0, (rd_T75 h0.f4 0).f1⟩ : S75) fun r7 => impl_IsFeature.ret r7) else none) else (impl_IsFeature.ret false)) else (if h0.f1 = 2 then (impl_IsSimple.ap k h0.f4 fun r8 => impl_IsFeature.ret r8) else (if h0.f1 = 3 then (impl_IsRing.ap k h0.f4 fun r9 => impl_IsFeature.ret r9) else (impl_IsFeature.ret false)))))) := by kernel_rfl
def impl_IsFeature.toH (t : Bool) : HL eΓ [.b] := (t, ())
def impl_IsFeature.spec : Spc env := ⟨114, [.st .s59], [.b], impl_IsFeature.run⟩
def impl_IsFeature.ap {R : Type} (k : Nat) (h0 : S59) (K : Bool → Option R) : Option R := (impl_IsFeature.run k (h0, ())).bind fun r => K (r.1 : Bool)
theorem impl_IsFeature.ap_of {R : Type} {k : Nat} {h0 : S59} {r0 : Bool} {K : Bool → Option R} (h : impl_IsFeature.run k (h0, ()) = some (r0, ())) : impl_IsFeature.ap k h0 K = K r0 := by unfold impl_IsFeature.ap; rw [h]; rfl
theorem impl_IsFeature.snd : Snd env impl_IsFeature.spec := evF_snd env_ok (sndC impl_InRange.snd (sndC impl_IsName.snd (sndC impl_IsPoint.snd (sndC impl_IsSimple.snd (sndC impl_IsRing.snd (sndN))))))
attribute [local irreducible] impl_IsFeature.run
theorem impl_IsFeature.rt (a0 : Bool) : impl_IsFeature.ret a0 = some (impl_IsFeature.toH (a0)) := rfl
theorem impl_IsFeature.go {k : Nat} {a0_0 : Int} {a0_1 : Int} {a0_2 : Int} {a0_3 : ByteArray} {l0_4 : List S75} {t} (h : impl_IsFeature.f k a0_0 a0_1 a0_2 a0_3 l0_4 = some t) (K : Nat) (hK : k ≤ K) : impl_IsFeature.run K ((⟨a0_0, a0_1, a0_2, a0_3, l0_4⟩ : S59), ()) = some (impl_IsFeature.toH t) := by
  rw [impl_IsFeature.ef]
  (try dsimp only)
  unfold impl_IsFeature.f at h
  repeat' (with_reducible first
   | exact nos h
   | (cases some_inj h; exact impl_IsFeature.rt _)
   | ((have q : impl_IsFeature.j0 k _ _ _ _ _ _ = some _ := h; clear q); rcases k with _ | k <;> simp only [impl_IsFeature.j0, reduceCtorEq] at h)
   | (simp only [Option.bind_some] at h)
   | (refine ite_by h ?_ ?_ <;> (intro hc h; (try simp only [nrm] at hc)))
   | refine itT ?_
   | refine itF ?_
   | (refine bind_by h (fun t ht h => ?_); (first | refine (impl_InRange.ap_of (impl_InRange.go ht _)).trans ?_ | refine (impl_IsName.ap_of (impl_IsName.go ht _ (by omega))).trans ?_ | refine (impl_IsPoint.ap_of (impl_IsPoint.go ht _)).trans ?_ | refine (impl_IsSimple.ap_of (impl_IsSimple.go ht _ (by omega))).trans ?_ | refine (impl_IsRing.ap_of (impl_IsRing.go ht _ (by omega))).trans ?_); (try dsimp only at h ⊢))
   | (simp only [nr2] at h ⊢)
   | (exfalso; omega))
def impl_IsSource.Fs : List (Spc env) := [impl_IsFeature.spec]
def impl_IsSource.fin : St eΓ → Option (HL eΓ [.b]) := finR env Tryz.f66.results.toList [.b]
def impl_IsSource.cut : Nat → Option (List (Lv SC)) := lk [(4, [⟨0, none, false⟩, ⟨8, none, false⟩, ⟨9, none, false⟩, ⟨10, none, false⟩])]
def impl_IsSource.ret (r0 : Bool) : Option (HL eΓ [.b]) := some (r0, ())
def impl_IsSource.p4 (k : Nat) (x9 : Int) (x10 : Int) (x0 : List S59) : Option (HL eΓ [.b]) := evM env impl_IsSource.Fs Tryz.f66.ntmps impl_IsSource.fin impl_IsSource.cut k [.code (sub_ [1, 1, 0, 1, 0, 0, 0] (bodyOf Tryz.f66)), .code (sub_ [1, 1, 0, 1, 0, 0, 1] (bodyOf Tryz.f66)), .lp (sub_ [1, 1, 0, 1, 0, 0] (bodyOf Tryz.f66)), .blk 0, .code (sub_ [1, 1, 1] (bodyOf Tryz.f66))] (mkSt [(0, .c (.sl 0)), (8, .c (.sl 0)), (9, .c (.v (.int .i64 x9))), (10, .c (.v (.int .i64 x10)))] [.row .ro 59 (.st .s59) x0])
theorem impl_IsSource.e4 (k : Nat) (x9 : Int) (x10 : Int) (x0 : List S59) : impl_IsSource.p4 (k + 1) x9 x10 x0 = if x10 < x9 then (if 0 ≤ x10 then (if x10 < (x0.length : Int) then (impl_IsFeature.ap k (⟨(rd_T59 x0 x10).f0, (rd_T59 x0 x10).f1, (rd_T59 x0 x10).f2, (rd_T59 x0 x10).f3, (rd_T59 x0 x10).f4⟩ : S59) fun r1 => if (!r1) = true then (impl_IsSource.ret false) else (if x10 > 0 then (if 0 ≤ (wrap64 (x10 - 1)) then (if (wrap64 (x10 - 1)) < (x0.length : Int) then (if ((rd_T59 x0 x10).f0) ≤ ((rd_T59 x0 (wrap64 (x10 - 1))).f0) then (impl_IsSource.ret false) else (impl_IsSource.p4 k x9 (wrap64 (x10 + 1)) x0)) else none) else none) else (impl_IsSource.p4 k x9 (wrap64 (x10 + 1)) x0))) else none) else none) else (impl_IsSource.ret true) := by kernel_rfl
def impl_IsSource.run (k : Nat) (h : HL eΓ [.l 59 (.st .s59)]) : Option (HL eΓ [.b]) := evF env impl_IsSource.Fs Tryz.f66 impl_IsSource.cut [.l 59 (.st .s59)] [.b] k h
theorem impl_IsSource.ef (k : Nat) (h0 : List S59) : impl_IsSource.run k (h0, ()) = if (h0.length : Int) > 16 then (impl_IsSource.ret false) else (impl_IsSource.p4 k (h0.length : Int) 0 h0) := by kernel_rfl
def impl_IsSource.toH (t : Bool) : HL eΓ [.b] := (t, ())
def impl_IsSource.spec : Spc env := ⟨66, [.l 59 (.st .s59)], [.b], impl_IsSource.run⟩
def impl_IsSource.ap {R : Type} (k : Nat) (h0 : List S59) (K : Bool → Option R) : Option R := (impl_IsSource.run k (h0, ())).bind fun r => K (r.1 : Bool)
theorem impl_IsSource.ap_of {R : Type} {k : Nat} {h0 : List S59} {r0 : Bool} {K : Bool → Option R} (h : impl_IsSource.run k (h0, ()) = some (r0, ())) : impl_IsSource.ap k h0 K = K r0 := by unfold impl_IsSource.ap; rw [h]; rfl
theorem impl_IsSource.snd : Snd env impl_IsSource.spec := evF_snd env_ok (sndC impl_IsFeature.snd (sndN))
attribute [local irreducible] impl_IsSource.run
theorem impl_IsSource.rt (a0 : Bool) : impl_IsSource.ret a0 = some (impl_IsSource.toH (a0)) := rfl
theorem impl_IsSource.br (n : Nat) : (∀ K, n ≤ K → ∀ (x9 : Int) (x10 : Int) (x0 : List S59) t, impl_IsSource.l0 n x0 x0 x9 x10 = some t → impl_IsSource.p4 K x9 x10 x0 = some (impl_IsSource.toH t)) := by
  induction n using Nat.strongRecOn with
  | _ n ih =>
  intro K hK x9 x10 x0 t h
  all_goals (rcases n with _ | k)
  all_goals (try (exact nos h))
  all_goals (obtain ⟨K, rfl⟩ : ∃ q, K = q + 1 := ⟨K - 1, by omega⟩)
  all_goals (first | rw [impl_IsSource.e4])
  all_goals (simp only [impl_IsSource.l0] at h)
  repeat' (with_reducible first
   | exact nos h
   | (cases some_inj h; exact impl_IsSource.rt _)
   | exact (ih _ (by omega)) _ (by omega) _ _ _ _ h
   | (simp only [Option.bind_some] at h)
   | (refine ite_by h ?_ ?_ <;> (intro hc h; (try simp only [nrm] at hc)))
   | refine itT ?_
   | refine itF ?_
   | (refine bind_by h (fun t ht h => ?_); refine (impl_IsFeature.ap_of (impl_IsFeature.go ht _ (by omega))).trans ?_; (try dsimp only at h ⊢))
   | (simp only [nr2] at h ⊢)
   | (exfalso; omega))
theorem impl_IsSource.go {k : Nat} {l0 : List S59} {t} (h : impl_IsSource.f k l0 = some t) (K : Nat) (hK : k ≤ K) : impl_IsSource.run K (l0, ()) = some (impl_IsSource.toH t) := by
  rw [impl_IsSource.ef]
  (try dsimp only)
  unfold impl_IsSource.f at h
  repeat' (with_reducible first
   | exact nos h
   | (cases some_inj h; exact impl_IsSource.rt _)
   | exact (impl_IsSource.br _) _ (by omega) _ _ _ _ h
   | (simp only [Option.bind_some] at h)
   | (refine ite_by h ?_ ?_ <;> (intro hc h; (try simp only [nrm] at hc)))
   | refine itT ?_
   | refine itF ?_
   | (refine bind_by h (fun t ht h => ?_); refine (impl_IsFeature.ap_of (impl_IsFeature.go ht _ (by omega))).trans ?_; (try dsimp only at h ⊢))
   | (simp only [nr2] at h ⊢)
   | (exfalso; omega))
theorem impl_IsSource.calls (k : Nat) (A0 : Option Addr) (c0 : Nat) (l0 : List (S59)) (r : Bool) (w : World) (hr0 : Kd.C k59 w A0 l0.length l0) (hc0 : l0.length ≤ c0) (h : impl_IsSource.f k l0 = some r) :
  Calls Tryz.prog 66 #[.slice A0 l0.length c0] w fun e w' => e = .returned (.bool r) ∧ Below w.heap.size w w' := by
  refine (impl_IsSource.snd.calls _ _ _ (impl_IsSource.go h k (Nat.le_refl k)) w [.slice A0 l0.length c0] ⟨⟨_, _, rfl, hc0, hr0⟩, trivial⟩).mono ?_
  rintro e w' ⟨v, rfl, hB, vs, oks, rfl, hR, _⟩
  obtain ⟨x0_, vs, o0_, oks, rfl, rfl, m0_, hR⟩ := rmsC hR
  obtain rfl := rmsN hR
  obtain rfl := List.singleton_inj.1 (show [x0_] = [Value.bool r] from m0_)
  exact ⟨rfl, hB⟩
def impl_IsLevel.Fs : List (Spc env) := [impl_InRange.spec]
def impl_IsLevel.cut : Nat → Option (List (Lv SC)) := lk []
def impl_IsLevel.ret (r0 : Bool) : Option (HL eΓ [.b]) := some (r0, ())
def impl_IsLevel.run (k : Nat) (h : HL eΓ [.st .s46]) : Option (HL eΓ [.b]) := evF env impl_IsLevel.Fs Tryz.f67 impl_IsLevel.cut [.st .s46] [.b] k h
theorem impl_IsLevel.ef (k : Nat) (h0 : S46) : impl_IsLevel.run k (h0, ()) = impl_InRange.ap k h0.f0 0 9 fun r1 => if r1 = true then (impl_InRange.ap k h0.f1 0 200 fun r2 => if r2 = true then (impl_InRange.ap k h0.f2 0 100000 fun r3 => impl_IsLevel.ret r3) else (impl_IsLevel.ret false)) else (impl_IsLevel.ret false) := by kernel_rfl
def impl_IsLevel.toH (t : Bool) : HL eΓ [.b] := (t, ())
def impl_IsLevel.spec : Spc env := ⟨67, [.st .s46], [.b], impl_IsLevel.run⟩
theorem impl_IsLevel.snd : Snd env impl_IsLevel.spec := evF_snd env_ok (sndC impl_InRange.snd (sndN))
attribute [local irreducible] impl_IsLevel.run
theorem impl_IsLevel.rt (a0 : Bool) : impl_IsLevel.ret a0 = some (impl_IsLevel.toH (a0)) := rfl
theorem impl_IsLevel.go {a0_0 : Int} {a0_1 : Int} {a0_2 : Int} {t} (h : impl_IsLevel.f a0_0 a0_1 a0_2 = some t) (K : Nat) : impl_IsLevel.run K ((⟨a0_0, a0_1, a0_2⟩ : S46), ()) = some (impl_IsLevel.toH t) := by
  rw [impl_IsLevel.ef]
  (try dsimp only)
  unfold impl_IsLevel.f at h
  repeat' (with_reducible first
   | exact nos h
   | (cases some_inj h; exact impl_IsLevel.rt _)
   | (simp only [Option.bind_some] at h)
   | (refine ite_by h ?_ ?_ <;> (intro hc h; (try simp only [nrm] at hc)))
   | refine itT ?_
   | refine itF ?_
   | (refine bind_by h (fun t ht h => ?_); refine (impl_InRange.ap_of (impl_InRange.go ht _)).trans ?_; (try dsimp only at h ⊢))
   | (simp only [nr2] at h ⊢)
   | (exfalso; omega))
theorem impl_IsLevel.calls (a0_0 : Int) (a0_1 : Int) (a0_2 : Int) (r : Bool) (w : World) (h : impl_IsLevel.f a0_0 a0_1 a0_2 = some r) :
  Calls Tryz.prog 67 #[.agg #[.int .i64 a0_0, .int .i64 a0_1, .int .i64 a0_2]] w fun e w' => e = .returned (.bool r) ∧ Below w.heap.size w w' := by
  refine (impl_IsLevel.snd.calls _ _ _ (impl_IsLevel.go h 0) w [.agg #[.int .i64 a0_0, .int .i64 a0_1, .int .i64 a0_2]] ⟨⟨_, rfl, (H46.K _ _ _).2 ⟨rfl, rfl, rfl, trivial⟩⟩, trivial⟩).mono ?_
  rintro e w' ⟨v, rfl, hB, vs, oks, rfl, hR, _⟩
  obtain ⟨x0_, vs, o0_, oks, rfl, rfl, m0_, hR⟩ := rmsC hR
  obtain rfl := rmsN hR
  obtain rfl := List.singleton_inj.1 (show [x0_] = [Value.bool r] from m0_)
  exact ⟨rfl, hB⟩
def impl_ArePlaces.Fs : List (Spc env) := [impl_InRange.spec, impl_IsPoint.spec]
def impl_ArePlaces.fin : St eΓ → Option (HL eΓ [.b]) := finR env Tryz.f152.results.toList [.b]
def impl_ArePlaces.cut : Nat → Option (List (Lv SC)) := lk [(4, [⟨0, none, false⟩, ⟨8, none, false⟩, ⟨9, none, false⟩, ⟨10, none, false⟩])]
def impl_ArePlaces.ret (r0 : Bool) : Option (HL eΓ [.b]) := some (r0, ())
def impl_ArePlaces.p4 (k : Nat) (x9 : Int) (x10 : Int) (x0 : List S77) : Option (HL eΓ [.b]) := evM env impl_ArePlaces.Fs Tryz.f152.ntmps impl_ArePlaces.fin impl_ArePlaces.cut k [.code (sub_ [1, 1, 0, 1, 0, 0, 0] (bodyOf Tryz.f152)), .code (sub_ [1, 1, 0, 1, 0, 0, 1] (bodyOf Tryz.f152)), .lp (sub_ [1, 1, 0, 1, 0, 0] (bodyOf Tryz.f152)), .blk 0, .code (sub_ [1, 1, 1] (bodyOf Tryz.f152))] (mkSt [(0, .c (.sl 0)), (8, .c (.sl 0)), (9, .c (.v (.int .i64 x9))), (10, .c (.v (.int .i64 x10)))] [.row .ro 77 (.st .s77) x0])
theorem impl_ArePlaces.e4 (k : Nat) (x9 : Int) (x10 : Int) (x0 : List S77) : impl_ArePlaces.p4 (k + 1) x9 x10 x0 = if x10 < x9 then (if 0 ≤ x10 then (if x10 < (x0.length : Int) then (impl_InRange.ap k ((rd_T77 x0 x10).f0) 1 99 fun r1 => if (!r1) = true then (impl_ArePlaces.ret false) else (impl_IsPoint.ap k (⟨(rd_T77 x0 x10).f1.f0, (rd_T77 x0 x10).f1.f1⟩ : S75) fun r2 => if (!r2) = true then (impl_ArePlaces.ret false) else (impl_InRange.ap k ((rd_T77 x0 x10).f2) 0 9 fun r3 => if (!r3) = true then (impl_ArePlaces.ret false) else (if x10 > 0 then (if 0 ≤ (wrap64 (x10 - 1)) then (if (wrap64 (x10 - 1)) < (x0.length : Int) then (if ((rd_T77 x0 x10).f0) ≤ ((rd_T77 x0 (wrap64 (x10 - 1))).f0) then (impl_ArePlaces.ret false) else (impl_ArePlaces.p4 k x9 (wrap64 (x10 + 1)) x0)) else none) else none) else (impl_ArePlaces.p4 k x9 (wrap64 (x10 + 1)) x0))))) else none) else none) else (impl_ArePlaces.ret true) := by kernel_rfl
def impl_ArePlaces.run (k : Nat) (h : HL eΓ [.l 77 (.st .s77)]) : Option (HL eΓ [.b]) := evF env impl_ArePlaces.Fs Tryz.f152 impl_ArePlaces.cut [.l 77 (.st .s77)] [.b] k h
theorem impl_ArePlaces.ef (k : Nat) (h0 : List S77) : impl_ArePlaces.run k (h0, ()) = if (h0.length : Int) > 16 then (impl_ArePlaces.ret false) else (impl_ArePlaces.p4 k (h0.length : Int) 0 h0) := by kernel_rfl
def impl_ArePlaces.toH (t : Bool) : HL eΓ [.b] := (t, ())
def impl_ArePlaces.spec : Spc env := ⟨152, [.l 77 (.st .s77)], [.b], impl_ArePlaces.run⟩
theorem impl_ArePlaces.snd : Snd env impl_ArePlaces.spec := evF_snd env_ok (sndC impl_InRange.snd (sndC impl_IsPoint.snd (sndN)))
attribute [local irreducible] impl_ArePlaces.run
theorem impl_ArePlaces.rt (a0 : Bool) : impl_ArePlaces.ret a0 = some (impl_ArePlaces.toH (a0)) := rfl
theorem impl_ArePlaces.br (n : Nat) : (∀ K, n ≤ K → ∀ (x9 : Int) (x10 : Int) (x0 : List S77) t, impl_ArePlaces.l0 n x0 x0 x9 x10 = some t → impl_ArePlaces.p4 K x9 x10 x0 = some (impl_ArePlaces.toH t)) := by
  induction n using Nat.strongRecOn with
  | _ n ih =>
  intro K hK x9 x10 x0 t h
  all_goals (rcases n with _ | k)
  all_goals (try (exact nos h))
  all_goals (obtain ⟨K, rfl⟩ : ∃ q, K = q + 1 := ⟨K - 1, by omega⟩)
  all_goals (first | rw [impl_ArePlaces.e4])
  all_goals (simp only [impl_ArePlaces.l0] at h)
  repeat' (with_reducible first
   | exact nos h
   | (cases some_inj h; exact impl_ArePlaces.rt _)
   | exact (ih _ (by omega)) _ (by omega) _ _ _ _ h
   | (simp only [Option.bind_some] at h)
   | (refine ite_by h ?_ ?_ <;> (intro hc h; (try simp only [nrm] at hc)))
   | refine itT ?_
   | refine itF ?_
   | (refine bind_by h (fun t ht h => ?_); (first | refine (impl_InRange.ap_of (impl_InRange.go ht _)).trans ?_ | refine (impl_IsPoint.ap_of (impl_IsPoint.go ht _)).trans ?_); (try dsimp only at h ⊢))
   | (simp only [nr2] at h ⊢)
   | (exfalso; omega))
theorem impl_ArePlaces.go {k : Nat} {l0 : List S77} {t} (h : impl_ArePlaces.f k l0 = some t) (K : Nat) (hK : k ≤ K) : impl_ArePlaces.run K (l0, ()) = some (impl_ArePlaces.toH t) := by
  rw [impl_ArePlaces.ef]
  (try dsimp only)
  unfold impl_ArePlaces.f at h
  repeat' (with_reducible first
   | exact nos h
   | (cases some_inj h; exact impl_ArePlaces.rt _)
   | exact (impl_ArePlaces.br _) _ (by omega) _ _ _ _ h
   | (simp only [Option.bind_some] at h)
   | (refine ite_by h ?_ ?_ <;> (intro hc h; (try simp only [nrm] at hc)))
   | refine itT ?_
   | refine itF ?_
   | (refine bind_by h (fun t ht h => ?_); (first | refine (impl_InRange.ap_of (impl_InRange.go ht _)).trans ?_ | refine (impl_IsPoint.ap_of (impl_IsPoint.go ht _)).trans ?_); (try dsimp only at h ⊢))
   | (simp only [nr2] at h ⊢)
   | (exfalso; omega))
end
end Go.Proofs.YtkomgmgpgnjooaaGreat.PFnExactShownIds
