-- Written by a program of this session's (evlaw.py).
import Derived.Test.YtkebhlkbnnlegaaPFnExactShrinkFeaturex2
namespace Go.Proofs.Ytkebhlkbnnlegaa.PFnExactShrinkFeature
open Go.RowKit Go.Proofs.YtkebhlkbnnlegaaW.PrintWords Go.Proofs.YtkebhlkbnnlegaaW.PrintLast Go.Proofs.YtkebhlkbnnlegaaW.PrintMore Go.Proofs.YtkebhlkbnnlegaaGeo Go.Proofs.YtkebhlkbnnlegaaHand Go.Proofs.YtkebhlkbnnlegaaMeet Go.Proofs.YtkebhlkbnnlegaaQuiet Go.Proofs.YtkebhlkbnnlegaaZ
open Go Go.Proofs.YtkebhlkbnnlegaaEv
attribute [local go_sem] max2_int min2_int max_two min_two max_three min_three max_four min_four   -- for this text's walks alone
set_option linter.unusedVariables false
set_option linter.unusedSimpArgs false



set_option linter.unusedSimpArgs false

attribute [local go_sem high] eqA77
set_option linter.unusedVariables false
set_option linter.unusedSimpArgs false
set_option maxRecDepth 100000
noncomputable section
set_option maxHeartbeats 8000000 in
set_option maxRecDepth 100000 in
theorem spec_DropCorner.calls (k : Nat) (A0 : Option Addr) (c0 : Nat) (l0 : List (S77)) (a1 : Int) (r1 : List (S77)) (r2 : Bool) (w : World) (hr0 : Kd.C k77 w A0 l0.length l0) (hc0 : l0.length ≤ c0) (h : spec_DropCorner.f k l0 a1 = some (r1, r2)) :
  Calls Try.prog 39 #[.slice A0 l0.length c0, .int .i64 a1] w fun e w' => ∃ v0_ : Value, e = .returned (.tuple #[v0_, .bool r2]) ∧ Kd.R k77 77 w' w.heap.size (fun _ => True) v0_ r1 ∧ Below w.heap.size w w' := by
 have HR0 := Aside0.mk hr0; have HC0 := Aside0.mk hc0; clear hr0 hc0; have HB := Aside0.mk (Below.refl w.heap.size w); have HC3 := Aside0.mk (show (spec_IsRing.f k l0).bind (fun t162 => (if t162 = true then ((spec_l1In.f a1 0 (wrap64 ((l0.length : Int) - 1))).bind fun t163 => (spec_DropCorner.j0 k l0 a1 (!t163))) else (spec_DropCorner.j0 k l0 a1 true))) = some (r1, r2) from h); clear h
 go_enter Try.func39, Try.ntmps39
 go_upto_region 1 with (fail)
 go_cut [17] (fun v17 wc => ∃ (kq : Nat) (x17_2 : Bool), v17 = .bool x17_2 ∧ Aside0 (spec_DropCorner.j0 kq l0 a1 x17_2 = some (r1, r2)) ∧ Aside0 (kq ≤ k) ∧ Aside0 (Below w.heap.size w wc))
 case first =>
  obtain ⟨t162, A40, H⟩ := Option.bind_eq_some_iff.mp HC3.out; clear HC3; have A4 := Aside0.mk A40; clear A40
  by_cases c5 : t162 = true
  ·subst c5; rw [if_pos rfl] at H; obtain ⟨t163, A60, H⟩ := Option.bind_eq_some_iff.mp H; have A6 := Aside0.mk A60; have H' := Aside0.mk H; clear A60 H; go_wp2_with (first | (go_at_call 68; refine (spec_IsRing.calls k _ _ l0 true _ (Kd.C_below HR0.out bz) HC0.out A4.out).mono ?_; rintro e w7 ⟨rfl, hb⟩; have n1_ := Aside0.mk (below_step bz hb); clear HB hb; have HB := n1_; clear n1_) | (go_at_call 67; (with_reducible refine (spec_l1In.calls a1 0 (wrap64 ((l0.length : Int) - 1)) t163 _ A6.out).mono ?_); rintro e w' ⟨rfl, ⟨nd, rfl⟩⟩))
   go_meet
   case rel => exact ⟨_, (!t163), rz, H', ⟨Nat.le_refl _⟩, ⟨bz⟩⟩
  ·replace c5 := Bool.eq_false_iff.mpr c5; subst c5; rw [if_neg (by decide)] at H; have H' := Aside0.mk H; clear H; go_wp2_with (first | (go_at_call 68; refine (spec_IsRing.calls k _ _ l0 false _ (Kd.C_below HR0.out bz) HC0.out A4.out).mono ?_; rintro e w7 ⟨rfl, hb⟩; have n1_ := Aside0.mk (below_step bz hb); clear HB hb; have HB := n1_; clear n1_))
   go_meet
   case rel => exact ⟨_, (true), rz, H', ⟨Nat.le_refl _⟩, ⟨bz⟩⟩
 case rest =>
  clear HC3 HB; obtain ⟨kq, x17_2, rfl, HA, HJ2, HB⟩ := hcut
  cases kq with
  | zero => exact absurd HA.out (by simp [spec_DropCorner.j0])
  | succ kj2 =>
   have H := HA.out; clear HA; simp only [spec_DropCorner.j0, Option.bind_some, List.nil_append, List.length_nil, Nat.zero_add] at H
   by_cases c9 : x17_2 = true
   ·subst c9; simp only [if_true] at H
    by_cases c10 : l0.length < 8796093022208
    rotate_left
    ·rw [if_neg c10] at H; cases H
    rw [if_pos c10] at H; have LX := Aside0.mk c10; clear c10; simp only [Option.some.injEq, Prod.mk.injEq] at H; obtain ⟨rfl, rfl⟩ := H; go_wp2_with (first | ((with_reducible refine gate_dst (N := 18) rfl ?_); (try (refine gate_guard (by rfl) ?_; dsimp only)); refine Kd.R_lit k77 _ 77 ?hg (N := 18) ?hd (xs := ([] : List (S77))) (inner := []) (ok := fun _ => True) (okp := fun _ => True) ?hr ?hp (fun _ hk => hk) trivial (Below.refl _ _) (Nat.le_refl _) (by simp) ?_; (case hd => rfl); (case hg => rfl); (case hr => first | (go_simp; done) | (go_simp; rfl)); (case hp => exact (Reps.none _ _)); intro v165 w11 ho12 hb hg_ hnew_; clear hg_ hnew_; have HOx := Aside0.mk (Kd.R_lower ho12 (below_size bz)); have n1_ := Aside0.mk (below_step bz hb); clear HB hb ho12; have HB := n1_; clear n1_) | ((with_reducible refine gate_builtin (b := .append) (xs := #[.tmp 18, .tmp 19]) rfl ?_); (try (refine gate_guard (by rfl) ?_; dsimp only)); at_builtin; refine Kd.R_append_rows k77 (w0 := w) w.heap.size rfl (.tmp 18) (.tmp 19) 26 77 (.agg #[(.int .i64 0), (.int .i64 0)]) 16 rfl Try.underlying26 info77 rfl (by decide) (by omega) v165 [] l0 _ _ _ (fun _ => True) (fun _ => False) rfl rfl ?aO ?aR (fun _ _ h => h) (fun _ h => h.elim) ?aF ?aB ?aS ?aL ?_; (case aR => exact (Kd.C_below HR0.out HB.out)); (case aB => exact HB.out); (case aF => exact (fun _ _ => trivial)); (case aO => exact HOx.out); (case aS => exact (below_size HB.out)); (case aL => have := LX.out; simp; omega); intro v168 w13 ho hb hg hat; rw [List.nil_append] at ho; clear HOx HB hg hat; have HOy := Aside0.mk ho; have HB := Aside0.mk hb; clear ho hb))
    go_ret2
    exact ⟨_, ez, HOy.out, HB.out⟩
   replace c9 := Bool.eq_false_iff.mpr c9; subst c9; simp only [Bool.false_eq_true, if_false] at H
   by_cases c14 : 0 ≤ a1
   rotate_left
   ·rw [if_neg c14] at H; cases H
   rw [if_pos c14] at H
   by_cases c15 : a1 ≤ (l0.length : Int)
   rotate_left
   ·rw [if_neg c15] at H; cases H
   rw [if_pos c15] at H
   by_cases c16 : (l0.take a1.toNat).length < 8796093022208
   rotate_left
   ·rw [if_neg c16] at H; cases H
   rw [if_pos c16] at H
   by_cases c18 : 0 ≤ wrap64 (a1 + 1)
   rotate_left
   ·rw [if_neg c18] at H; cases H
   rw [if_pos c18] at H
   by_cases c19 : wrap64 (a1 + 1) ≤ (l0.length : Int)
   rotate_left
   ·rw [if_neg c19] at H; cases H
   rw [if_pos c19] at H
   by_cases c20 : (l0.take a1.toNat).length + (l0.drop (wrap64 (a1 + 1)).toNat).length < 8796093022208
   rotate_left
   ·rw [if_neg c20] at H; cases H
   rw [if_pos c20] at H; have d14 : decide (0 ≤ a1) = true := decide_eq_true c14; have d15 : decide (a1 ≤ (l0.length : Int)) = true := decide_eq_true c15; have d18 : decide (0 ≤ wrap64 (a1 + 1)) = true := decide_eq_true c18; have d19 : decide (wrap64 (a1 + 1) ≤ (l0.length : Int)) = true := decide_eq_true c19; have EW := Aside0.mk (show (wrap64 (a1 + 1)).toNat ≤ l0.length by omega); have E17 := Aside0.mk (show a1.toNat ≤ l0.length by omega); obtain ⟨ji15, hji15⟩ : ∃ j_ : Int, (wrap64 (a1 + 1)) = j_ := ⟨_, rfl⟩
   rw [hji15] at H d18 d19 EW c20; have hji15w : (IntKind.i64.wrap (a1 + 1)) = ji15 := (i64_w _).trans hji15; obtain ⟨y758, hy758⟩ : ∃ y_ : List (S77), y_ = (l0.take (a1 : Int).toNat) := ⟨_, rfl⟩
   obtain ⟨y766, hy766⟩ : ∃ y_ : List (S77), y_ = (l0.drop ((ji15) : Int).toNat) := ⟨_, rfl⟩
   rw [← hy758] at H c16 c20; rw [← hy766] at H c20; have LM1 := Aside0.mk c16; have LM2 := Aside0.mk c20; have Ny758 := Aside0.mk hy758; have Ny766 := Aside0.mk hy766; obtain ⟨y771, hy771⟩ : ∃ y_ : List (S77), y_ = (y758 ++ y766) := ⟨_, rfl⟩
   rw [← hy771] at H; have Ny771 := Aside0.mk hy771; have HH := Aside0.mk H; clear hy758 hy766 hy771 H c14 c15 c16 c18 c19 c20; (try go_wp2); have HI := Aside0.mk (below_drew1 HB.out); clear HB; obtain ⟨i026, hi026, _, hsz26, _⟩ := info_parts info77; have hroom26 : l0.length ≤ c0 := HC0.out; have q26 : (a1 : Int) ≤ ((l0.length : Int) : Int) := (of_decide_eq_true az)
   have hcut26 := cut_to (P := Try.prog) 26 77 .i64 Try.underlying26 hi026 A0 l0.length c0 a1 (of_decide_eq_true az) q26 hroom26; have hr26 := Kd.C_take (m := (a1 : Int).toNat) HR0.out E17.out; have hy26 : y758.length = (a1 : Int).toNat := (by rw [Ny758.out, List.length_take]; have := E17.out; omega)
   rw [← Ny758.out] at hr26; rw [← hy26] at hcut26; have q27 : ((ji15) : Int) ≤ ((l0.length : Int) : Int) := (of_decide_eq_true az)
   have q027 : (0 : Int) ≤ ((ji15) : Int) := (of_decide_eq_true az)
   have hcut27 := cut_from (P := Try.prog) 26 77 .i64 Try.underlying26 hi026 2 hsz26 A0 l0.length c0 (ji15) q027 q27; have hr27 := Kd.C_drop (m := ((ji15) : Int).toNat) (c := c0) HR0.out EW.out hroom26; obtain ⟨A27, hA27⟩ : ∃ A1, A1 = (if c0 = ((ji15) : Int).toNat then A0 else (A0 : Option Addr).map (·.add (((ji15) : Int).toNat * 2))) := ⟨_, rfl⟩
   obtain ⟨c27, hc27⟩ : ∃ c1, c1 = c0 - ((ji15) : Int).toNat := ⟨_, rfl⟩
   have hy27 : y766.length = l0.length - ((ji15) : Int).toNat := (by rw [Ny766.out, List.length_drop])
   rw [show (l0).drop ((ji15) : Int).toNat = y766 from Ny766.out.symm] at hr27; replace hr27 : Kd.C k77 w A27 y766.length y766 := (by rw [hA27]; exact hr27)
   rw [← hy27, ← hA27, ← hc27] at hcut27; have HF758 := Aside0.mk hr26; have HF766 := Aside0.mk hr27; clear hr26 hr27 hroom26 hi026 hsz26 hc27; have KY26 := Aside0.mk hy26; have KY27 := Aside0.mk hy27; have KA27 := Aside0.mk hA27; clear hy26 hy27 hA27; replace q26 := eq_true q26; replace q27 := eq_true q27; refine start_ (n := 11) (S := fun w' => True) (ds := []) #[F,F,F,F,F,F,F,F,F,F,F] (by kernel_rfl) rfl rfl trivial (fun hHeld => ?_); refine with_tabW spec_DropCorner.tab3 spec_DropCorner.bits3 (fun HT_ HW_ => ?_); generalize wc.drew = w25 at HI hHeld ⊢; refine pz HT_ 1 22 ?_; refine pz HT_ 2 23 ?_; refine pz HT_ 3 24 ?_; refine pz HT_ 5 26 ?_; refine pz HT_ 6 27 ?_; refine pz HT_ 7 28 ?_; refine pz HT_ 8 29 ?_; refine oz HT_ 0 (some 21) (fun K hK => ?_); refine Kd.R_lit_step k77 _ 77 ?hg (N := 21) ?hd (xs := ([] : List (S77))) (inner := []) (ok := fun _ => True) (okp := fun _ => True) ?hr ?hp (fun _ hk => hk) trivial (Below.refl _ _) (Nat.le_refl _) (by simp) ?_; (case hd => rfl); (case hg => rfl); (case hr => first | (go_simp; done) | (go_simp; rfl)); (case hp => exact (Reps.none _ _)); intro v171 w26 ho hb hg_ hnew_; have HOo := Aside0.mk (Kd.R_lower ho (below_size HI.out)); have HB := Aside0.mk (below_step HI.out hb); clear hg_ hnew_ ho hb HI; refine hK.out _ _ trivial (fun hHeld => ?_); clear hK K; refine nz 21 ?_; refine oz HT_ 4 (some 25) (fun K hK => ?_); refine Kd.R_append_rows_step k77 (w0 := w) w.heap.size (by rfl) (.tmp 21) (.tmp 24) 26 77 (.agg #[(.int .i64 0), (.int .i64 0)]) 16 rfl Try.underlying26 info77 rfl (by decide) (by omega) v171 [] y758 _ _ _ (fun _ => True) (fun _ => False) rfl rfl HOo.out (Kd.C_below HF758.out HB.out) (fun _ _ h => h) (fun _ h => h.elim) (fun _ _ => trivial) HB.out (below_size HB.out) (by have := LM1.out; simp; omega) ?_
   intro v178 w28 ho hb hg hat; rw [List.nil_append] at ho; clear hg hat HOo HB; have HOo := Aside0.mk ho; have HB := Aside0.mk hb; clear ho hb; refine hK.out _ _ trivial (fun hHeld => ?_); clear hK K; refine nz 25 ?_; refine oz HT_ 9 (some 30) (fun K hK => ?_); refine Kd.R_append_rows_step k77 (w0 := w) w.heap.size (by rfl) (.tmp 25) (.tmp 29) 26 77 (.agg #[(.int .i64 0), (.int .i64 0)]) 16 rfl Try.underlying26 info77 rfl (by decide) (by omega) v178 y758 y766 _ _ _ (fun _ => True) (fun _ => False) rfl rfl HOo.out (Kd.C_below HF766.out HB.out) (fun _ _ h => h) (fun _ h => h.elim) (fun _ _ => trivial) HB.out (below_size HB.out) (by have := LM2.out; omega) ?_; intro v185 w29 ho hb hg hat; rw [← Ny771.out] at ho; clear hg hat HOo HB; have HOo := Aside0.mk ho; have HB := Aside0.mk hb; clear ho hb; refine hK.out _ _ trivial (fun hHeld => ?_); clear hK K; refine nz 30 ?_; refine pz HT_ 10 6 ?_; refine dz HT_ ?_; obtain ⟨Ao30, co30, eo30⟩ := Kd.R_slice HOo.out; subst eo30; clear HF758 HF766 hcut26 hcut27; obtain ⟨t187, A210, H⟩ := Option.bind_eq_some_iff.mp HH.out; have A21 := Aside0.mk A210; clear A210 HH
   by_cases c22 : t187 = true
   rotate_left
   ·replace c22 := Bool.eq_false_iff.mpr c22; subst c22; simp only [Bool.false_eq_true, if_false] at H
    by_cases c32 : l0.length < 8796093022208
    rotate_left
    ·rw [if_neg c32] at H; cases H
    rw [if_pos c32] at H; have LX := Aside0.mk c32; clear c32; simp only [Option.some.injEq, Prod.mk.injEq] at H; obtain ⟨rfl, rfl⟩ := H; go_wp2_with (first | (go_at_call 68; refine (spec_IsRing.calls kj2 _ _ y771 false _ (Kd.R_reads' HOo.out).2.2 (Kd.R_reads' HOo.out).2.1 A21.out).mono ?_; rintro e w31 ⟨rfl, hb⟩; have n0_ := Aside0.mk (Kd.R_below HOo.out hb); have n1_ := Aside0.mk (below_step HB.out hb); clear HOo HB hb; have HOo := n0_; have HB := n1_; clear n0_ n1_) | ((with_reducible refine gate_dst (N := 40) rfl ?_); (try (refine gate_guard (by rfl) ?_; dsimp only)); refine Kd.R_lit k77 _ 77 ?hg (N := 40) ?hd (xs := ([] : List (S77))) (inner := []) (ok := fun _ => True) (okp := fun _ => True) ?hr ?hp (fun _ hk => hk) trivial (Below.refl _ _) (Nat.le_refl _) (by simp) ?_; (case hd => rfl); (case hg => rfl); (case hr => first | (go_simp; done) | (go_simp; rfl)); (case hp => exact (Reps.none _ _)); intro v165 w11 ho12 hb hg_ hnew_; clear hg_ hnew_; have HOx := Aside0.mk (Kd.R_lower ho12 (below_size bz)); have n1_ := Aside0.mk (below_step bz hb); clear HB hb ho12; have HB := n1_; clear n1_) | ((with_reducible refine gate_builtin (b := .append) (xs := #[.tmp 40, .tmp 41]) rfl ?_); (try (refine gate_guard (by rfl) ?_; dsimp only)); at_builtin; refine Kd.R_append_rows k77 (w0 := w) w.heap.size rfl (.tmp 40) (.tmp 41) 26 77 (.agg #[(.int .i64 0), (.int .i64 0)]) 16 rfl Try.underlying26 info77 rfl (by decide) (by omega) v165 [] l0 _ _ _ (fun _ => True) (fun _ => False) rfl rfl ?aO ?aR (fun _ _ h => h) (fun _ h => h.elim) ?aF ?aB ?aS ?aL ?_; (case aR => exact (Kd.C_below HR0.out HB.out)); (case aB => exact HB.out); (case aF => exact (fun _ _ => trivial)); (case aO => exact HOx.out); (case aS => exact (below_size HB.out)); (case aL => have := LX.out; simp; omega); intro v168 w13 ho hb hg hat; rw [List.nil_append] at ho; clear HOx HB hg hat; have HOy := Aside0.mk ho; have HB := Aside0.mk hb; clear ho hb))
    go_ret2
    exact ⟨_, (by first | rfl | (simp [errW_none, errW_some] <;> rfl) | (simp only [← hji15]; first | rfl | (simp [errW_none, errW_some] <;> rfl)) | (simp [*, errW_none, errW_some] <;> rfl)), HOy.out, HB.out⟩
   subst c22; simp only [if_true] at H; obtain ⟨t270, A220, H⟩ := Option.bind_eq_some_iff.mp H; have A22 := Aside0.mk A220; clear A220
   by_cases c23 : t270 = true
   rotate_left
   ·replace c23 := Bool.eq_false_iff.mpr c23; subst c23; simp only [Bool.false_eq_true, if_false] at H
    by_cases c32 : l0.length < 8796093022208
    rotate_left
    ·rw [if_neg c32] at H; cases H
    rw [if_pos c32] at H; have LX := Aside0.mk c32; clear c32; simp only [Option.some.injEq, Prod.mk.injEq] at H; obtain ⟨rfl, rfl⟩ := H; go_wp2_with (first | (go_at_call 68; refine (spec_IsRing.calls kj2 _ _ y771 true _ (Kd.R_reads' HOo.out).2.2 (Kd.R_reads' HOo.out).2.1 A21.out).mono ?_; rintro e w31 ⟨rfl, hb⟩; have n0_ := Aside0.mk (Kd.R_below HOo.out hb); have n1_ := Aside0.mk (below_step HB.out hb); clear HOo HB hb; have HOo := n0_; have HB := n1_; clear n0_ n1_) | (go_at_call 69; refine (spec_SameTurn.calls kj2 _ _ l0 _ _ y771 false _ (Kd.C_below HR0.out HB.out) HC0.out (Kd.R_reads' HOo.out).2.2 (Kd.R_reads' HOo.out).2.1 A22.out).mono ?_; rintro e w32 ⟨rfl, hb⟩; have n0_ := Aside0.mk (Kd.R_below HOo.out hb); have n1_ := Aside0.mk (below_step HB.out hb); clear HOo HB hb; have HOo := n0_; have HB := n1_; clear n0_ n1_) | ((with_reducible refine gate_dst (N := 40) rfl ?_); (try (refine gate_guard (by rfl) ?_; dsimp only)); refine Kd.R_lit k77 _ 77 ?hg (N := 40) ?hd (xs := ([] : List (S77))) (inner := []) (ok := fun _ => True) (okp := fun _ => True) ?hr ?hp (fun _ hk => hk) trivial (Below.refl _ _) (Nat.le_refl _) (by simp) ?_; (case hd => rfl); (case hg => rfl); (case hr => first | (go_simp; done) | (go_simp; rfl)); (case hp => exact (Reps.none _ _)); intro v165 w11 ho12 hb hg_ hnew_; clear hg_ hnew_; have HOx := Aside0.mk (Kd.R_lower ho12 (below_size bz)); have n1_ := Aside0.mk (below_step bz hb); clear HB hb ho12; have HB := n1_; clear n1_) | ((with_reducible refine gate_builtin (b := .append) (xs := #[.tmp 40, .tmp 41]) rfl ?_); (try (refine gate_guard (by rfl) ?_; dsimp only)); at_builtin; refine Kd.R_append_rows k77 (w0 := w) w.heap.size rfl (.tmp 40) (.tmp 41) 26 77 (.agg #[(.int .i64 0), (.int .i64 0)]) 16 rfl Try.underlying26 info77 rfl (by decide) (by omega) v165 [] l0 _ _ _ (fun _ => True) (fun _ => False) rfl rfl ?aO ?aR (fun _ _ h => h) (fun _ h => h.elim) ?aF ?aB ?aS ?aL ?_; (case aR => exact (Kd.C_below HR0.out HB.out)); (case aB => exact HB.out); (case aF => exact (fun _ _ => trivial)); (case aO => exact HOx.out); (case aS => exact (below_size HB.out)); (case aL => have := LX.out; simp; omega); intro v168 w13 ho hb hg hat; rw [List.nil_append] at ho; clear HOx HB hg hat; have HOy := Aside0.mk ho; have HB := Aside0.mk hb; clear ho hb))
    go_ret2
    exact ⟨_, (by first | rfl | (simp [errW_none, errW_some] <;> rfl) | (simp only [← hji15]; first | rfl | (simp [errW_none, errW_some] <;> rfl)) | (simp [*, errW_none, errW_some] <;> rfl)), HOy.out, HB.out⟩
   subst c23; simp only [if_true] at H; simp only [Option.some.injEq, Prod.mk.injEq] at H; obtain ⟨rfl, rfl⟩ := H; go_wp2_with (first | (go_at_call 68; refine (spec_IsRing.calls kj2 _ _ y771 true _ (Kd.R_reads' HOo.out).2.2 (Kd.R_reads' HOo.out).2.1 A21.out).mono ?_; rintro e w31 ⟨rfl, hb⟩; have n0_ := Aside0.mk (Kd.R_below HOo.out hb); have n1_ := Aside0.mk (below_step HB.out hb); clear HOo HB hb; have HOo := n0_; have HB := n1_; clear n0_ n1_) | (go_at_call 69; refine (spec_SameTurn.calls kj2 _ _ l0 _ _ y771 true _ (Kd.C_below HR0.out HB.out) HC0.out (Kd.R_reads' HOo.out).2.2 (Kd.R_reads' HOo.out).2.1 A22.out).mono ?_; rintro e w32 ⟨rfl, hb⟩; have n0_ := Aside0.mk (Kd.R_below HOo.out hb); have n1_ := Aside0.mk (below_step HB.out hb); clear HOo HB hb; have HOo := n0_; have HB := n1_; clear n0_ n1_)); go_ret2
   exact ⟨_, (by first | rfl | (simp [errW_none, errW_some] <;> rfl) | (simp only [← hji15]; first | rfl | (simp [errW_none, errW_some] <;> rfl)) | (simp [*, errW_none, errW_some] <;> rfl)), HOo.out, HB.out⟩
def spec_DropCorner.toH (t : (List (S77)) × Bool) : HL eΓ [.l 77 (.st .s77), .b] := (t.1, t.2, ())
def spec_DropCorner.run (k : Nat) (h : HL eΓ [.l 77 (.st .s77), .i .i64]) : Option (HL eΓ [.l 77 (.st .s77), .b]) := (spec_DropCorner.f k (h.1 : List S77) (h.2.1 : Int)).map spec_DropCorner.toH
def spec_DropCorner.spec : Spc env := ⟨39, [.l 77 (.st .s77), .i .i64], [.l 77 (.st .s77), .b], spec_DropCorner.run⟩
def spec_DropCorner.ap {R : Type} (k : Nat) (h0 : List S77) (h1 : Int) (K : (List S77) → Bool → Option R) : Option R := (spec_DropCorner.run k (h0, h1, ())).bind fun r => K (r.1 : List S77) (r.2.1 : Bool)
theorem spec_DropCorner.ap_of {R : Type} {k : Nat} {h0 : List S77} {h1 : Int} {r0 : List S77} {r1 : Bool} {K : (List S77) → Bool → Option R} (h : spec_DropCorner.run k (h0, h1, ()) = some (r0, r1, ())) : spec_DropCorner.ap k h0 h1 K = K r0 r1 := by unfold spec_DropCorner.ap; rw [h]; rfl
theorem spec_DropCorner.go {k : Nat} {l0 : List S77} {a1 : Int} {t} (h : spec_DropCorner.f k l0 a1 = some t) (K : Nat) (hk : k ≤ K) : spec_DropCorner.run K (l0, a1, ()) = some (spec_DropCorner.toH t) := by
  show Option.map _ (spec_DropCorner.f K l0 a1) = _
  rw [leo_le (f := fun k => spec_DropCorner.f k l0 a1) (fun k => spec_DropCorner.mono l0 a1 k) hk h]; rfl
theorem spec_DropCorner.snd : Snd env spec_DropCorner.spec := ⟨⟨Try.f39, by kernel_rfl, by kernel_rfl, by kernel_rfl⟩, fun k h r he w us hA => by
  obtain ⟨t, ht, rfl⟩ := Option.map_eq_some_iff.1 (show (spec_DropCorner.f k (h.1 : List S77) (h.2.1 : Int)).map spec_DropCorner.toH = some r from he)
  match us, hA with
  | [u0, u1], ⟨q0, q1, _⟩ =>
  obtain ⟨A0, c0, e0, l0, g0⟩ := q0
  obtain rfl := List.singleton_inj.1 e0
  obtain rfl := List.singleton_inj.1 (show [u1] = [Value.int .i64 (h.2.1 : Int)] from q1)
  refine (spec_DropCorner.calls (w := w) (h := ht) (hr0 := g0) (hc0 := l0)).mono ?_
  rintro e w' ⟨v0_, he, hR, hw⟩
  exact ⟨_, he, hw, [v0_, .bool t.2], [fun _ => True, fun _ => False], rfl, ⟨⟨v0_, rfl, hR⟩, rfl, trivial⟩, by simp [DJ]⟩⟩
def spec_IsName.Fs : List (Spc env) := [spec_l1In.spec]
def spec_IsName.fin : St eΓ → Option (HL eΓ [.b]) := finR env Try.f70.results.toList [.b]
def spec_IsName.cut : Nat → Option (List (Lv SC)) := lk [(2, [⟨0, none, false⟩, ⟨3, none, false⟩])]
def spec_IsName.ret (r0 : Bool) : Option (HL eΓ [.b]) := some (r0, ())
def spec_IsName.p2 (k : Nat) (x0 : ByteArray) (x3 : Int) : Option (HL eΓ [.b]) := evM env spec_IsName.Fs Try.f70.ntmps spec_IsName.fin spec_IsName.cut k [.code (sub_ [1, 0, 1, 0, 0, 0, 0] (bodyOf Try.f70)), .code (sub_ [1, 0, 1, 0, 0, 0, 1] (bodyOf Try.f70)), .code (sub_ [1, 0, 1, 0, 0, 1] (bodyOf Try.f70)), .lp (sub_ [1, 0, 1, 0, 0] (bodyOf Try.f70)), .blk 0, .code (sub_ [1, 1] (bodyOf Try.f70))] (mkSt [(0, .c (.v (.string x0))), (3, .c (.v (.int .i64 x3)))] [])
theorem spec_IsName.e2 (k : Nat) (x0 : ByteArray) (x3 : Int) : spec_IsName.p2 (k + 1) x0 x3 = if x3 < (x0.size : Int) then (if 0 ≤ x3 then (if x3 < (x0.size : Int) then (if (bt x0 x3) < 97 then (spec_IsName.ret false) else (if 0 ≤ x3 then (if x3 < (x0.size : Int) then (if (bt x0 x3) > 122 then (spec_IsName.ret false) else (spec_IsName.p2 k x0 (wrap64 (x3 + 1)))) else none) else none)) else none) else none) else (spec_l1In.ap k (x0.size : Int) 1 8 fun r1 => spec_IsName.ret r1) := by kernel_rfl
def spec_IsName.run (k : Nat) (h : HL eΓ [.s]) : Option (HL eΓ [.b]) := evF env spec_IsName.Fs Try.f70 spec_IsName.cut [.s] [.b] k h
theorem spec_IsName.ef (k : Nat) (h0 : ByteArray) : spec_IsName.run k (h0, ()) = spec_IsName.p2 k h0 0 := by kernel_rfl
def spec_IsName.toH (t : Bool) : HL eΓ [.b] := (t, ())
def spec_IsName.spec : Spc env := ⟨70, [.s], [.b], spec_IsName.run⟩
def spec_IsName.ap {R : Type} (k : Nat) (h0 : ByteArray) (K : Bool → Option R) : Option R := (spec_IsName.run k (h0, ())).bind fun r => K (r.1 : Bool)
theorem spec_IsName.ap_of {R : Type} {k : Nat} {h0 : ByteArray} {r0 : Bool} {K : Bool → Option R} (h : spec_IsName.run k (h0, ()) = some (r0, ())) : spec_IsName.ap k h0 K = K r0 := by unfold spec_IsName.ap; rw [h]; rfl
theorem spec_IsName.snd : Snd env spec_IsName.spec := evF_snd env_ok (sndC spec_l1In.snd (sndN))
attribute [local irreducible] spec_IsName.run
theorem spec_IsName.rt (a0 : Bool) : spec_IsName.ret a0 = some (spec_IsName.toH (a0)) := rfl
theorem spec_IsName.br (n : Nat) : (∀ K, n ≤ K → ∀ (x0 : ByteArray) (x3 : Int) t, spec_IsName.l0 n x0 x3 = some t → spec_IsName.p2 K x0 x3 = some (spec_IsName.toH t)) := by
  induction n using Nat.strongRecOn with
  | _ n ih =>
  intro K hK x0 x3 t h
  all_goals (rcases n with _ | k)
  all_goals (try (exact nos h))
  all_goals (obtain ⟨K, rfl⟩ : ∃ q, K = q + 1 := ⟨K - 1, by omega⟩)
  all_goals (first | rw [spec_IsName.e2])
  all_goals (simp only [spec_IsName.l0] at h)
  repeat' (with_reducible first
   | exact nos h
   | (cases some_inj h; exact spec_IsName.rt _)
   | exact (ih _ (by omega)) _ (by omega) _ _ _ h
   | (simp only [Option.bind_some] at h)
   | (refine ite_by h ?_ ?_ <;> (intro hc h; (try simp only [nrm] at hc)))
   | refine itT ?_
   | refine itF ?_
   | (refine bind_by h (fun t ht h => ?_); refine (spec_l1In.ap_of (spec_l1In.go ht _)).trans ?_; (try dsimp only at h ⊢))
   | (simp only [nr2] at h ⊢)
   | (exfalso; omega))
theorem spec_IsName.go {k : Nat} {a0 : ByteArray} {t} (h : spec_IsName.f k a0 = some t) (K : Nat) (hK : k ≤ K) : spec_IsName.run K (a0, ()) = some (spec_IsName.toH t) := by
  rw [spec_IsName.ef]
  (try dsimp only)
  unfold spec_IsName.f at h
  repeat' (with_reducible first
   | exact nos h
   | (cases some_inj h; exact spec_IsName.rt _)
   | exact (spec_IsName.br _) _ (by omega) _ _ _ h
   | (simp only [Option.bind_some] at h)
   | (refine ite_by h ?_ ?_ <;> (intro hc h; (try simp only [nrm] at hc)))
   | refine itT ?_
   | refine itF ?_
   | (refine bind_by h (fun t ht h => ?_); refine (spec_l1In.ap_of (spec_l1In.go ht _)).trans ?_; (try dsimp only at h ⊢))
   | (simp only [nr2] at h ⊢)
   | (exfalso; omega))
def spec_SegmentsOf.Fs : List (Spc env) := [spec_IsLine.spec]
def spec_SegmentsOf.fin : St eΓ → Option (HL eΓ [.l 95 (.st .s95)]) := finR env Try.f103.results.toList [.l 95 (.st .s95)]
def spec_SegmentsOf.cut : Nat → Option (List (Lv SC)) := lk [(3, [⟨0, none, false⟩, ⟨3, none, false⟩, ⟨4, none, false⟩])]
def spec_SegmentsOf.ret (r0 : List S95) : Option (HL eΓ [.l 95 (.st .s95)]) := some (r0, ())
def spec_SegmentsOf.p3 (k : Nat) (x4 : Int) (x0 : List S77) (x3 : List S95) : Option (HL eΓ [.l 95 (.st .s95)]) := evM env spec_SegmentsOf.Fs Try.f103.ntmps spec_SegmentsOf.fin spec_SegmentsOf.cut k [.code (sub_ [1, 1, 0, 1, 0, 0, 0, 0] (bodyOf Try.f103)), .code (sub_ [1, 1, 0, 1, 0, 0, 0, 1] (bodyOf Try.f103)), .code (sub_ [1, 1, 0, 1, 0, 0, 1] (bodyOf Try.f103)), .lp (sub_ [1, 1, 0, 1, 0, 0] (bodyOf Try.f103)), .blk 0, .code (sub_ [1, 1, 1] (bodyOf Try.f103))] (mkSt [(0, .c (.sl 0)), (3, .c (.sl 1)), (4, .c (.v (.int .i64 x4)))] [.row .ro 77 (.st .s77) x0, .row .own 95 (.st .s95) x3])
theorem spec_SegmentsOf.e3 (k : Nat) (x4 : Int) (x0 : List S77) (x3 : List S95) : spec_SegmentsOf.p3 (k + 1) x4 x0 x3 = if x4 < (x0.length : Int) then (spec_IsLine.ap k x0 fun r1 => if r1 = true then (if 0 ≤ (wrap64 (x4 - 1)) then (if (wrap64 (x4 - 1)) < (x0.length : Int) then (if 0 ≤ x4 then (if x4 < (x0.length : Int) then (if (x3.length + 1) * 32 ≤ 140737488355328 then (spec_SegmentsOf.p3 k (wrap64 (x4 + 1)) x0 (x3 ++ [(⟨(⟨(rd_T77 x0 (wrap64 (x4 - 1))).f0, (rd_T77 x0 (wrap64 (x4 - 1))).f1⟩ : S77), (⟨(rd_T77 x0 x4).f0, (rd_T77 x0 x4).f1⟩ : S77)⟩ : S95)])) else none) else none) else none) else none) else none) else (spec_SegmentsOf.ret x3)) else (spec_SegmentsOf.ret x3) := by kernel_rfl
def spec_SegmentsOf.run (k : Nat) (h : HL eΓ [.l 77 (.st .s77)]) : Option (HL eΓ [.l 95 (.st .s95)]) := evF env spec_SegmentsOf.Fs Try.f103 spec_SegmentsOf.cut [.l 77 (.st .s77)] [.l 95 (.st .s95)] k h
theorem spec_SegmentsOf.ef (k : Nat) (h0 : List S77) : spec_SegmentsOf.run k (h0, ()) = spec_SegmentsOf.p3 k 1 h0 ([] : List S95) := by kernel_rfl
def spec_SegmentsOf.toH (t : (List (S95))) : HL eΓ [.l 95 (.st .s95)] := (t, ())
def spec_SegmentsOf.spec : Spc env := ⟨103, [.l 77 (.st .s77)], [.l 95 (.st .s95)], spec_SegmentsOf.run⟩
def spec_SegmentsOf.ap {R : Type} (k : Nat) (h0 : List S77) (K : (List S95) → Option R) : Option R := (spec_SegmentsOf.run k (h0, ())).bind fun r => K (r.1 : List S95)
theorem spec_SegmentsOf.ap_of {R : Type} {k : Nat} {h0 : List S77} {r0 : List S95} {K : (List S95) → Option R} (h : spec_SegmentsOf.run k (h0, ()) = some (r0, ())) : spec_SegmentsOf.ap k h0 K = K r0 := by unfold spec_SegmentsOf.ap; rw [h]; rfl
theorem spec_SegmentsOf.snd : Snd env spec_SegmentsOf.spec := evF_snd env_ok (sndC spec_IsLine.snd (sndN))
attribute [local irreducible] spec_SegmentsOf.run
theorem spec_SegmentsOf.rt (a0 : List S95) : spec_SegmentsOf.ret a0 = some (spec_SegmentsOf.toH (a0)) := rfl
theorem spec_SegmentsOf.br (n : Nat) : (∀ K, n ≤ K → ∀ (x4 : Int) (x0 : List S77) (x3 : List S95) t, spec_SegmentsOf.l0 n x0 x3 x4 = some t → spec_SegmentsOf.p3 K x4 x0 x3 = some (spec_SegmentsOf.toH t)) := by
  induction n using Nat.strongRecOn with
  | _ n ih =>
  intro K hK x4 x0 x3 t h
  all_goals (rcases n with _ | k)
  all_goals (try (exact nos h))
  all_goals (obtain ⟨K, rfl⟩ : ∃ q, K = q + 1 := ⟨K - 1, by omega⟩)
  all_goals (first | rw [spec_SegmentsOf.e3])
  all_goals (simp only [spec_SegmentsOf.l0] at h)
  repeat' (with_reducible first
   | exact nos h
   | (cases some_inj h; exact spec_SegmentsOf.rt _)
   | exact (ih _ (by omega)) _ (by omega) _ _ _ _ h
   | (simp only [Option.bind_some] at h)
   | (refine ite_by h ?_ ?_ <;> (intro hc h; (try simp only [nrm] at hc)))
   | refine itT ?_
   | refine itF ?_
   | (refine bind_by h (fun t ht h => ?_); refine (spec_IsLine.ap_of (spec_IsLine.go ht _ (by omega))).trans ?_; (try dsimp only at h ⊢))
   | (simp only [nr2] at h ⊢)
   | (exfalso; omega))
theorem spec_SegmentsOf.go {k : Nat} {l0 : List S77} {t} (h : spec_SegmentsOf.f k l0 = some t) (K : Nat) (hK : k ≤ K) : spec_SegmentsOf.run K (l0, ()) = some (spec_SegmentsOf.toH t) := by
  rw [spec_SegmentsOf.ef]
  (try dsimp only)
  unfold spec_SegmentsOf.f at h
  repeat' (with_reducible first
   | exact nos h
   | (cases some_inj h; exact spec_SegmentsOf.rt _)
   | exact (spec_SegmentsOf.br _) _ (by omega) _ _ _ _ h
   | (simp only [Option.bind_some] at h)
   | (refine ite_by h ?_ ?_ <;> (intro hc h; (try simp only [nrm] at hc)))
   | refine itT ?_
   | refine itF ?_
   | (refine bind_by h (fun t ht h => ?_); refine (spec_IsLine.ap_of (spec_IsLine.go ht _ (by omega))).trans ?_; (try dsimp only at h ⊢))
   | (simp only [nr2] at h ⊢)
   | (exfalso; omega))
def spec_IsSimple.Fs : List (Spc env) := [spec_SegmentsOf.spec, spec_IsLine.spec, spec_HowMeet.spec]
def spec_IsSimple.fin : St eΓ → Option (HL eΓ [.b]) := finR env Try.f72.results.toList [.b]
def spec_IsSimple.cut : Nat → Option (List (Lv SC)) := lk [(3, [⟨0, none, false⟩, ⟨3, none, false⟩, ⟨4, none, false⟩]), (6, [⟨0, none, false⟩, ⟨3, none, false⟩, ⟨4, none, false⟩, ⟨5, none, false⟩])]
def spec_IsSimple.ret (r0 : Bool) : Option (HL eΓ [.b]) := some (r0, ())
def spec_IsSimple.p3 (k : Nat) (x4 : Int) (x0 : List S77) (x3 : List S95) : Option (HL eΓ [.b]) := evM env spec_IsSimple.Fs Try.f72.ntmps spec_IsSimple.fin spec_IsSimple.cut k [.code (sub_ [1, 1, 0, 1, 0, 0, 0, 0] (bodyOf Try.f72)), .code (sub_ [1, 1, 0, 1, 0, 0, 0, 1] (bodyOf Try.f72)), .code (sub_ [1, 1, 0, 1, 0, 0, 1] (bodyOf Try.f72)), .lp (sub_ [1, 1, 0, 1, 0, 0] (bodyOf Try.f72)), .blk 0, .code (sub_ [1, 1, 1] (bodyOf Try.f72))] (mkSt [(0, .c (.sl 0)), (3, .c (.sl 1)), (4, .c (.v (.int .i64 x4)))] [.row .ro 77 (.st .s77) x0, .row .own 95 (.st .s95) x3])
def spec_IsSimple.p6 (k : Nat) (x4 : Int) (x5 : Int) (x0 : List S77) (x3 : List S95) : Option (HL eΓ [.b]) := evM env spec_IsSimple.Fs Try.f72.ntmps spec_IsSimple.fin spec_IsSimple.cut k [.code (sub_ [1, 1, 0, 1, 0, 0, 1, 0, 0, 1, 0, 0, 0, 0] (bodyOf Try.f72)), .code (sub_ [1, 1, 0, 1, 0, 0, 1, 0, 0, 1, 0, 0, 0, 1] (bodyOf Try.f72)), .code (sub_ [1, 1, 0, 1, 0, 0, 1, 0, 0, 1, 0, 0, 1] (bodyOf Try.f72)), .lp (sub_ [1, 1, 0, 1, 0, 0, 1, 0, 0, 1, 0, 0] (bodyOf Try.f72)), .blk 2, .blk 1, .code (sub_ [1, 1, 0, 1, 0, 0, 1, 1] (bodyOf Try.f72)), .lp (sub_ [1, 1, 0, 1, 0, 0] (bodyOf Try.f72)), .blk 0, .code (sub_ [1, 1, 1] (bodyOf Try.f72))] (mkSt [(0, .c (.sl 0)), (3, .c (.sl 1)), (4, .c (.v (.int .i64 x4))), (5, .c (.v (.int .i64 x5)))] [.row .ro 77 (.st .s77) x0, .row .own 95 (.st .s95) x3])
theorem spec_IsSimple.e3 (k : Nat) (x4 : Int) (x0 : List S77) (x3 : List S95) : spec_IsSimple.p3 (k + 1) x4 x0 x3 = if x4 < (x3.length : Int) then (spec_IsSimple.p6 k x4 0 x0 x3) else (spec_IsLine.ap k x0 fun r1 => spec_IsSimple.ret r1) := by kernel_rfl
theorem spec_IsSimple.e6 (k : Nat) (x4 : Int) (x5 : Int) (x0 : List S77) (x3 : List S95) : spec_IsSimple.p6 (k + 1) x4 x5 x0 x3 = if x5 < x4 then (if (wrap64 (x5 + 1)) = x4 then (if 0 ≤ x4 then (if x4 < (x3.length : Int) then (if 0 ≤ x5 then (if x5 < (x3.length : Int) then (spec_HowMeet.ap k (⟨(⟨(rd_T95 x3 x4).f0.f0, (rd_T95 x3 x4).f0.f1⟩ : S77), (⟨(rd_T95 x3 x4).f1.f0, (rd_T95 x3 x4).f1.f1⟩ : S77)⟩ : S95) (⟨(⟨(rd_T95 x3 x5).f0.f0, (rd_T95 x3 x5).f0.f1⟩ : S77), (⟨(rd_T95 x3 x5).f1.f0, (rd_T95 x3 x5).f1.f1⟩ : S77)⟩ : S95) fun r1 => if ¬ r1 = 1 then (spec_IsSimple.ret false) else (spec_IsSimple.p6 k x4 (wrap64 (x5 + 1)) x0 x3)) else none) else none) else none) else none) else (if 0 ≤ x4 then (if x4 < (x3.length : Int) then (if 0 ≤ x5 then (if x5 < (x3.length : Int) then (spec_HowMeet.ap k (⟨(⟨(rd_T95 x3 x4).f0.f0, (rd_T95 x3 x4).f0.f1⟩ : S77), (⟨(rd_T95 x3 x4).f1.f0, (rd_T95 x3 x4).f1.f1⟩ : S77)⟩ : S95) (⟨(⟨(rd_T95 x3 x5).f0.f0, (rd_T95 x3 x5).f0.f1⟩ : S77), (⟨(rd_T95 x3 x5).f1.f0, (rd_T95 x3 x5).f1.f1⟩ : S77)⟩ : S95) fun r2 => if ¬ r2 = 0 then (spec_IsSimple.ret false) else (spec_IsSimple.p6 k x4 (wrap64 (x5 + 1)) x0 x3)) else none) else none) else none) else none)) else (spec_IsSimple.p3 k (wrap64 (x4 + 1)) x0 x3) := by kernel_rfl
def spec_IsSimple.run (k : Nat) (h : HL eΓ [.l 77 (.st .s77)]) : Option (HL eΓ [.b]) := evF env spec_IsSimple.Fs Try.f72 spec_IsSimple.cut [.l 77 (.st .s77)] [.b] k h
theorem spec_IsSimple.ef (k : Nat) (h0 : List S77) : spec_IsSimple.run k (h0, ()) = spec_SegmentsOf.ap k h0 fun r1 => spec_IsSimple.p3 k 0 h0 r1 := by kernel_rfl
def spec_IsSimple.toH (t : Bool) : HL eΓ [.b] := (t, ())
def spec_IsSimple.spec : Spc env := ⟨72, [.l 77 (.st .s77)], [.b], spec_IsSimple.run⟩
def spec_IsSimple.ap {R : Type} (k : Nat) (h0 : List S77) (K : Bool → Option R) : Option R := (spec_IsSimple.run k (h0, ())).bind fun r => K (r.1 : Bool)
theorem spec_IsSimple.ap_of {R : Type} {k : Nat} {h0 : List S77} {r0 : Bool} {K : Bool → Option R} (h : spec_IsSimple.run k (h0, ()) = some (r0, ())) : spec_IsSimple.ap k h0 K = K r0 := by unfold spec_IsSimple.ap; rw [h]; rfl
theorem spec_IsSimple.snd : Snd env spec_IsSimple.spec := evF_snd env_ok (sndC spec_SegmentsOf.snd (sndC spec_IsLine.snd (sndC spec_HowMeet.snd (sndN))))
attribute [local irreducible] spec_IsSimple.run
theorem spec_IsSimple.rt (a0 : Bool) : spec_IsSimple.ret a0 = some (spec_IsSimple.toH (a0)) := rfl
theorem spec_IsSimple.br (n : Nat) : (∀ K, n ≤ K → ∀ (x4 : Int) (x0 : List S77) (x3 : List S95) t, spec_IsSimple.l0 n x0 x3 x4 = some t → spec_IsSimple.p3 K x4 x0 x3 = some (spec_IsSimple.toH t)) ∧ (∀ K, n ≤ K → ∀ (x4 : Int) (x5 : Int) (x0 : List S77) (x3 : List S95) t, spec_IsSimple.l1 n x0 x3 x4 x5 = some t → spec_IsSimple.p6 K x4 x5 x0 x3 = some (spec_IsSimple.toH t)) := by
  induction n using Nat.strongRecOn with
  | _ n ih =>
  refine ⟨fun K hK x4 x0 x3 t h => ?_, fun K hK x4 x5 x0 x3 t h => ?_⟩
  all_goals (rcases n with _ | k)
  all_goals (try (exact nos h))
  all_goals (obtain ⟨K, rfl⟩ : ∃ q, K = q + 1 := ⟨K - 1, by omega⟩)
  all_goals (first | rw [spec_IsSimple.e3] | rw [spec_IsSimple.e6])
  all_goals (simp only [spec_IsSimple.l0, spec_IsSimple.l1] at h)
  repeat' (with_reducible first
   | exact nos h
   | (cases some_inj h; exact spec_IsSimple.rt _)
   | exact (ih _ (by omega)).1 _ (by omega) _ _ _ _ h
   | exact (ih _ (by omega)).2 _ (by omega) _ _ _ _ _ h
   | (simp only [Option.bind_some] at h)
   | (refine ite_by h ?_ ?_ <;> (intro hc h; (try simp only [nrm] at hc)))
   | refine itT ?_
   | refine itF ?_
   | (refine bind_by h (fun t ht h => ?_); (first | refine (spec_SegmentsOf.ap_of (spec_SegmentsOf.go ht _ (by omega))).trans ?_ | refine (spec_IsLine.ap_of (spec_IsLine.go ht _ (by omega))).trans ?_ | refine (spec_HowMeet.ap_of (spec_HowMeet.go ht _)).trans ?_); (try dsimp only at h ⊢))
   | (simp only [nr2] at h ⊢)
   | (exfalso; omega))
theorem spec_IsSimple.go {k : Nat} {l0 : List S77} {t} (h : spec_IsSimple.f k l0 = some t) (K : Nat) (hK : k ≤ K) : spec_IsSimple.run K (l0, ()) = some (spec_IsSimple.toH t) := by
  rw [spec_IsSimple.ef]
  (try dsimp only)
  unfold spec_IsSimple.f at h
  repeat' (with_reducible first
   | exact nos h
   | (cases some_inj h; exact spec_IsSimple.rt _)
   | exact (spec_IsSimple.br _).1 _ (by omega) _ _ _ _ h
   | exact (spec_IsSimple.br _).2 _ (by omega) _ _ _ _ _ h
   | (simp only [Option.bind_some] at h)
   | (refine ite_by h ?_ ?_ <;> (intro hc h; (try simp only [nrm] at hc)))
   | refine itT ?_
   | refine itF ?_
   | (refine bind_by h (fun t ht h => ?_); (first | refine (spec_SegmentsOf.ap_of (spec_SegmentsOf.go ht _ (by omega))).trans ?_ | refine (spec_IsLine.ap_of (spec_IsLine.go ht _ (by omega))).trans ?_ | refine (spec_HowMeet.ap_of (spec_HowMeet.go ht _)).trans ?_); (try dsimp only at h ⊢))
   | (simp only [nr2] at h ⊢)
   | (exfalso; omega))
def spec_IsFeature.Fs : List (Spc env) := [spec_l1In.spec, spec_IsName.spec, spec_IsPoint.spec, spec_IsSimple.spec, spec_IsRing.spec]
def spec_IsFeature.cut : Nat → Option (List (Lv SC)) := lk []
def spec_IsFeature.ret (r0 : Bool) : Option (HL eΓ [.b]) := some (r0, ())
def spec_IsFeature.run (k : Nat) (h : HL eΓ [.st .s28]) : Option (HL eΓ [.b]) := evF env spec_IsFeature.Fs Try.f40 spec_IsFeature.cut [.st .s28] [.b] k h
theorem spec_IsFeature.ef (k : Nat) (h0 : S28) : spec_IsFeature.run k (h0, ()) = spec_l1In.ap k h0.f0 1 99 fun r1 => if (!r1) = true then (spec_IsFeature.ret false) else (spec_l1In.ap k h0.f2 0 9 fun r2 => if (!r2) = true then (spec_IsFeature.ret false) else (if ¬ h0.f3.toList = [] then (spec_IsName.ap k h0.f3 fun r3 => if (!r3) = true then (spec_IsFeature.ret false) else (if h0.f1 = 1 then (if (h0.f4.length : Int) = 1 then (if 0 < (h0.f4.length : Int) then (spec_IsPoint.ap k (⟨(rd_T77 h0.f4 0).f0, (rd_T77 h0.f4 0).f1⟩ : S77) fun r4 => spec_IsFeature.ret r4) else none) else (spec_IsFeature.ret false)) else (if h0.f1 = 2 then (spec_IsSimple.ap k h0.f4 fun r5 => spec_IsFeature.ret r5) else (if h0.f1 = 3 then (spec_IsRing.ap k h0.f4 fun r6 => spec_IsFeature.ret r6) else (spec_IsFeature.ret false))))) else (if h0.f1 = 1 then (if (h0.f4.length : Int) = 1 then (if 0 < (h0.f4.length : Int) then (spec_IsPoint.ap k (⟨(rd_T77 h0.f4 0).f0, (rd_T77 h0.f4 0).f1⟩ : S77) fun r7 => spec_IsFeature.ret r7) else none) else (spec_IsFeature.ret false)) else (if h0.f1 = 2 then (spec_IsSimple.ap k h0.f4 fun r8 => spec_IsFeature.ret r8) else (if h0.f1 = 3 then (spec_IsRing.ap k h0.f4 fun r9 => spec_IsFeature.ret r9) else (spec_IsFeature.ret false)))))) := by kernel_rfl
def spec_IsFeature.toH (t : Bool) : HL eΓ [.b] := (t, ())
def spec_IsFeature.spec : Spc env := ⟨40, [.st .s28], [.b], spec_IsFeature.run⟩
def spec_IsFeature.ap {R : Type} (k : Nat) (h0 : S28) (K : Bool → Option R) : Option R := (spec_IsFeature.run k (h0, ())).bind fun r => K (r.1 : Bool)
theorem spec_IsFeature.ap_of {R : Type} {k : Nat} {h0 : S28} {r0 : Bool} {K : Bool → Option R} (h : spec_IsFeature.run k (h0, ()) = some (r0, ())) : spec_IsFeature.ap k h0 K = K r0 := by unfold spec_IsFeature.ap; rw [h]; rfl
theorem spec_IsFeature.snd : Snd env spec_IsFeature.spec := evF_snd env_ok (sndC spec_l1In.snd (sndC spec_IsName.snd (sndC spec_IsPoint.snd (sndC spec_IsSimple.snd (sndC spec_IsRing.snd (sndN))))))
attribute [local irreducible] spec_IsFeature.run
theorem spec_IsFeature.rt (a0 : Bool) : spec_IsFeature.ret a0 = some (spec_IsFeature.toH (a0)) := rfl
theorem spec_IsFeature.go {k : Nat} {a0_0 : Int} {a0_1 : Int} {a0_2 : Int} {a0_3 : ByteArray} {l0_4 : List S77} {t} (h : spec_IsFeature.f k a0_0 a0_1 a0_2 a0_3 l0_4 = some t) (K : Nat) (hK : k ≤ K) : spec_IsFeature.run K ((⟨a0_0, a0_1, a0_2, a0_3, l0_4⟩ : S28), ()) = some (spec_IsFeature.toH t) := by
  rw [spec_IsFeature.ef]
  (try dsimp only)
  unfold spec_IsFeature.f at h
  repeat' (with_reducible first
   | exact nos h
   | (cases some_inj h; exact spec_IsFeature.rt _)
   | ((have q : spec_IsFeature.j0 k _ _ _ _ _ _ = some _ := h; clear q); rcases k with _ | k <;> simp only [spec_IsFeature.j0, reduceCtorEq] at h)
   | (simp only [Option.bind_some] at h)
   | (refine ite_by h ?_ ?_ <;> (intro hc h; (try simp only [nrm] at hc)))
   | refine itT ?_
   | refine itF ?_
   | (refine bind_by h (fun t ht h => ?_); (first | refine (spec_l1In.ap_of (spec_l1In.go ht _)).trans ?_ | refine (spec_IsName.ap_of (spec_IsName.go ht _ (by omega))).trans ?_ | refine (spec_IsPoint.ap_of (spec_IsPoint.go ht _)).trans ?_ | refine (spec_IsSimple.ap_of (spec_IsSimple.go ht _ (by omega))).trans ?_ | refine (spec_IsRing.ap_of (spec_IsRing.go ht _ (by omega))).trans ?_); (try dsimp only at h ⊢))
   | (simp only [nr2] at h ⊢)
   | (exfalso; omega))
def spec_DropFrom.Fs : List (Spc env) := [spec_l9Feature.spec, spec_DropPoint.spec, spec_IsFeature.spec, spec_DropCorner.spec]
def spec_DropFrom.cut : Nat → Option (List (Lv SC)) := lk []
def spec_DropFrom.ret (r0 : S28) (r1 : Bool) : Option (HL eΓ [.st .s28, .b]) := some (r0, r1, ())
def spec_DropFrom.run (k : Nat) (h : HL eΓ [.st .s28, .i .i64]) : Option (HL eΓ [.st .s28, .b]) := evF env spec_DropFrom.Fs Try.f9 spec_DropFrom.cut [.st .s28, .i .i64] [.st .s28, .b] k h
theorem spec_DropFrom.ef (k : Nat) (h0 : S28) (h1 : Int) : spec_DropFrom.run k (h0, h1, ()) = spec_l9Feature.ap k (⟨h0.f0, h0.f1, h0.f2, h0.f3, h0.f4⟩ : S28) fun r1 => if h0.f1 = 2 then (spec_DropPoint.ap k h0.f4 h1 fun r2_0 r2_1 => if (!r2_1) = true then (spec_l9Feature.ap k (⟨h0.f0, h0.f1, h0.f2, h0.f3, h0.f4⟩ : S28) fun r3 => spec_DropFrom.ret (⟨r3.f0, r3.f1, r3.f2, r3.f3, r3.f4⟩ : S28) false) else (spec_IsFeature.ap k (⟨r1.f0, r1.f1, r1.f2, r1.f3, r2_0⟩ : S28) fun r4 => if (!r4) = true then (spec_l9Feature.ap k (⟨h0.f0, h0.f1, h0.f2, h0.f3, h0.f4⟩ : S28) fun r5 => spec_DropFrom.ret (⟨r5.f0, r5.f1, r5.f2, r5.f3, r5.f4⟩ : S28) false) else (spec_DropFrom.ret (⟨r1.f0, r1.f1, r1.f2, r1.f3, r2_0⟩ : S28) true))) else (if h0.f1 = 3 then (spec_DropCorner.ap k h0.f4 h1 fun r6_0 r6_1 => if (!r6_1) = true then (spec_l9Feature.ap k (⟨h0.f0, h0.f1, h0.f2, h0.f3, h0.f4⟩ : S28) fun r7 => spec_DropFrom.ret (⟨r7.f0, r7.f1, r7.f2, r7.f3, r7.f4⟩ : S28) false) else (spec_IsFeature.ap k (⟨r1.f0, r1.f1, r1.f2, r1.f3, r6_0⟩ : S28) fun r8 => if (!r8) = true then (spec_l9Feature.ap k (⟨h0.f0, h0.f1, h0.f2, h0.f3, h0.f4⟩ : S28) fun r9 => spec_DropFrom.ret (⟨r9.f0, r9.f1, r9.f2, r9.f3, r9.f4⟩ : S28) false) else (spec_DropFrom.ret (⟨r1.f0, r1.f1, r1.f2, r1.f3, r6_0⟩ : S28) true))) else (spec_l9Feature.ap k (⟨h0.f0, h0.f1, h0.f2, h0.f3, h0.f4⟩ : S28) fun r10 => spec_DropFrom.ret (⟨r10.f0, r10.f1, r10.f2, r10.f3, r10.f4⟩ : S28) false)) := by kernel_rfl
def spec_DropFrom.toH (t : Int × Int × Int × ByteArray × (List (S77)) × Bool) : HL eΓ [.st .s28, .b] := ((⟨t.1, t.2.1, t.2.2.1, t.2.2.2.1, t.2.2.2.2.1⟩ : S28), t.2.2.2.2.2, ())
def spec_DropFrom.spec : Spc env := ⟨9, [.st .s28, .i .i64], [.st .s28, .b], spec_DropFrom.run⟩
def spec_DropFrom.ap {R : Type} (k : Nat) (h0 : S28) (h1 : Int) (K : S28 → Bool → Option R) : Option R := (spec_DropFrom.run k (h0, h1, ())).bind fun r => K (r.1 : S28) (r.2.1 : Bool)
theorem spec_DropFrom.ap_of {R : Type} {k : Nat} {h0 : S28} {h1 : Int} {r0 : S28} {r1 : Bool} {K : S28 → Bool → Option R} (h : spec_DropFrom.run k (h0, h1, ()) = some (r0, r1, ())) : spec_DropFrom.ap k h0 h1 K = K r0 r1 := by unfold spec_DropFrom.ap; rw [h]; rfl
theorem spec_DropFrom.snd : Snd env spec_DropFrom.spec := evF_snd env_ok (sndC spec_l9Feature.snd (sndC spec_DropPoint.snd (sndC spec_IsFeature.snd (sndC spec_DropCorner.snd (sndN)))))
attribute [local irreducible] spec_DropFrom.run
theorem spec_DropFrom.rt (a0 : Int) (a1 : Int) (a2 : Int) (a3 : ByteArray) (a4 : List S77) (a5 : Bool) : spec_DropFrom.ret (⟨a0, a1, a2, a3, a4⟩ : S28) a5 = some (spec_DropFrom.toH (a0, a1, a2, a3, a4, a5)) := rfl
theorem spec_DropFrom.go {k : Nat} {a0_0 : Int} {a0_1 : Int} {a0_2 : Int} {a0_3 : ByteArray} {l0_4 : List S77} {a1 : Int} {t} (h : spec_DropFrom.f k a0_0 a0_1 a0_2 a0_3 l0_4 a1 = some t) (K : Nat) (hK : k ≤ K) : spec_DropFrom.run K ((⟨a0_0, a0_1, a0_2, a0_3, l0_4⟩ : S28), a1, ()) = some (spec_DropFrom.toH t) := by
  rw [spec_DropFrom.ef]
  (try dsimp only)
  unfold spec_DropFrom.f at h
  repeat' (with_reducible first
   | exact nos h
   | (cases some_inj h; exact spec_DropFrom.rt _ _ _ _ _ _)
   | ((have q : spec_DropFrom.j0 k _ _ _ _ _ _ _ _ _ _ _ = some _ := h; clear q); rcases k with _ | k <;> simp only [spec_DropFrom.j0, reduceCtorEq] at h)
   | (simp only [Option.bind_some] at h)
   | (refine ite_by h ?_ ?_ <;> (intro hc h; (try simp only [nrm] at hc)))
   | refine itT ?_
   | refine itF ?_
   | (refine bind_by h (fun t ht h => ?_); (first | refine (spec_l9Feature.ap_of (spec_l9Feature.go ht _)).trans ?_ | refine (spec_DropPoint.ap_of (spec_DropPoint.go ht _ (by omega))).trans ?_ | refine (spec_IsFeature.ap_of (spec_IsFeature.go ht _ (by omega))).trans ?_ | refine (spec_DropCorner.ap_of (spec_DropCorner.go ht _ (by omega))).trans ?_); (try dsimp only at h ⊢))
   | (simp only [nr2] at h ⊢)
   | (exfalso; omega))
def spec_RingSegments.Fs : List (Spc env) := [spec_IsRing.spec, spec_l7Segments.spec]
def spec_RingSegments.cut : Nat → Option (List (Lv SC)) := lk []
def spec_RingSegments.ret (r0 : List S95) : Option (HL eΓ [.l 95 (.st .s95)]) := some (r0, ())
def spec_RingSegments.run (k : Nat) (h : HL eΓ [.l 77 (.st .s77)]) : Option (HL eΓ [.l 95 (.st .s95)]) := evF env spec_RingSegments.Fs Try.f111 spec_RingSegments.cut [.l 77 (.st .s77)] [.l 95 (.st .s95)] k h
theorem spec_RingSegments.ef (k : Nat) (h0 : List S77) : spec_RingSegments.run k (h0, ()) = spec_IsRing.ap k h0 fun r1 => if (!r1) = true then (spec_RingSegments.ret ([] : List S95)) else (spec_l7Segments.ap k h0 fun r2 => spec_RingSegments.ret r2) := by kernel_rfl
def spec_RingSegments.toH (t : (List (S95))) : HL eΓ [.l 95 (.st .s95)] := (t, ())
def spec_RingSegments.spec : Spc env := ⟨111, [.l 77 (.st .s77)], [.l 95 (.st .s95)], spec_RingSegments.run⟩
def spec_RingSegments.ap {R : Type} (k : Nat) (h0 : List S77) (K : (List S95) → Option R) : Option R := (spec_RingSegments.run k (h0, ())).bind fun r => K (r.1 : List S95)
theorem spec_RingSegments.ap_of {R : Type} {k : Nat} {h0 : List S77} {r0 : List S95} {K : (List S95) → Option R} (h : spec_RingSegments.run k (h0, ()) = some (r0, ())) : spec_RingSegments.ap k h0 K = K r0 := by unfold spec_RingSegments.ap; rw [h]; rfl
theorem spec_RingSegments.snd : Snd env spec_RingSegments.spec := evF_snd env_ok (sndC spec_IsRing.snd (sndC spec_l7Segments.snd (sndN)))
attribute [local irreducible] spec_RingSegments.run
theorem spec_RingSegments.rt (a0 : List S95) : spec_RingSegments.ret a0 = some (spec_RingSegments.toH (a0)) := rfl
theorem spec_RingSegments.go {k : Nat} {l0 : List S77} {t} (h : spec_RingSegments.f k l0 = some t) (K : Nat) (hK : k ≤ K) : spec_RingSegments.run K (l0, ()) = some (spec_RingSegments.toH t) := by
  rw [spec_RingSegments.ef]
  (try dsimp only)
  unfold spec_RingSegments.f at h
  repeat' (with_reducible first
   | exact nos h
   | (cases some_inj h; exact spec_RingSegments.rt _)
   | (simp only [Option.bind_some] at h)
   | (refine ite_by h ?_ ?_ <;> (intro hc h; (try simp only [nrm] at hc)))
   | refine itT ?_
   | refine itF ?_
   | (refine bind_by h (fun t ht h => ?_); (first | refine (spec_IsRing.ap_of (spec_IsRing.go ht _ (by omega))).trans ?_ | refine (spec_l7Segments.ap_of (spec_l7Segments.go ht _ (by omega))).trans ?_); (try dsimp only at h ⊢))
   | (simp only [nr2] at h ⊢)
   | (exfalso; omega))
def spec_PartsOf.Fs : List (Spc env) := [spec_IsFeature.spec, spec_SegmentsOf.spec, spec_RingSegments.spec]
def spec_PartsOf.cut : Nat → Option (List (Lv SC)) := lk []
def spec_PartsOf.ret (r0 : List S95) : Option (HL eΓ [.l 95 (.st .s95)]) := some (r0, ())
def spec_PartsOf.run (k : Nat) (h : HL eΓ [.st .s28]) : Option (HL eΓ [.l 95 (.st .s95)]) := evF env spec_PartsOf.Fs Try.f85 spec_PartsOf.cut [.st .s28] [.l 95 (.st .s95)] k h
theorem spec_PartsOf.ef (k : Nat) (h0 : S28) : spec_PartsOf.run k (h0, ()) = spec_IsFeature.ap k (⟨h0.f0, h0.f1, h0.f2, h0.f3, h0.f4⟩ : S28) fun r1 => if (!r1) = true then (spec_PartsOf.ret ([] : List S95)) else (if h0.f1 = 2 then (spec_SegmentsOf.ap k h0.f4 fun r2 => spec_PartsOf.ret r2) else (if h0.f1 = 3 then (spec_RingSegments.ap k h0.f4 fun r3 => spec_PartsOf.ret r3) else (spec_PartsOf.ret ([] : List S95)))) := by kernel_rfl
def spec_PartsOf.toH (t : (List (S95))) : HL eΓ [.l 95 (.st .s95)] := (t, ())
def spec_PartsOf.spec : Spc env := ⟨85, [.st .s28], [.l 95 (.st .s95)], spec_PartsOf.run⟩
def spec_PartsOf.ap {R : Type} (k : Nat) (h0 : S28) (K : (List S95) → Option R) : Option R := (spec_PartsOf.run k (h0, ())).bind fun r => K (r.1 : List S95)
theorem spec_PartsOf.ap_of {R : Type} {k : Nat} {h0 : S28} {r0 : List S95} {K : (List S95) → Option R} (h : spec_PartsOf.run k (h0, ()) = some (r0, ())) : spec_PartsOf.ap k h0 K = K r0 := by unfold spec_PartsOf.ap; rw [h]; rfl
theorem spec_PartsOf.snd : Snd env spec_PartsOf.spec := evF_snd env_ok (sndC spec_IsFeature.snd (sndC spec_SegmentsOf.snd (sndC spec_RingSegments.snd (sndN))))
attribute [local irreducible] spec_PartsOf.run
theorem spec_PartsOf.rt (a0 : List S95) : spec_PartsOf.ret a0 = some (spec_PartsOf.toH (a0)) := rfl
theorem spec_PartsOf.go {k : Nat} {a0_0 : Int} {a0_1 : Int} {a0_2 : Int} {a0_3 : ByteArray} {l0_4 : List S77} {t} (h : spec_PartsOf.f k a0_0 a0_1 a0_2 a0_3 l0_4 = some t) (K : Nat) (hK : k ≤ K) : spec_PartsOf.run K ((⟨a0_0, a0_1, a0_2, a0_3, l0_4⟩ : S28), ()) = some (spec_PartsOf.toH t) := by
  rw [spec_PartsOf.ef]
  (try dsimp only)
  unfold spec_PartsOf.f at h
  repeat' (with_reducible first
   | exact nos h
   | (cases some_inj h; exact spec_PartsOf.rt _)
   | (simp only [Option.bind_some] at h)
   | (refine ite_by h ?_ ?_ <;> (intro hc h; (try simp only [nrm] at hc)))
   | refine itT ?_
   | refine itF ?_
   | (refine bind_by h (fun t ht h => ?_); (first | refine (spec_IsFeature.ap_of (spec_IsFeature.go ht _ (by omega))).trans ?_ | refine (spec_SegmentsOf.ap_of (spec_SegmentsOf.go ht _ (by omega))).trans ?_ | refine (spec_RingSegments.ap_of (spec_RingSegments.go ht _ (by omega))).trans ?_); (try dsimp only at h ⊢))
   | (simp only [nr2] at h ⊢)
   | (exfalso; omega))
def spec_FeaturesMeet.Fs : List (Spc env) := [spec_PartsOf.spec, spec_HowMeet.spec, spec_Max.spec]
def spec_FeaturesMeet.fin : St eΓ → Option (HL eΓ [.i .i64]) := finR env Try.f49.results.toList [.i .i64]
def spec_FeaturesMeet.cut : Nat → Option (List (Lv SC)) := lk [(5, [⟨5, none, false⟩, ⟨6, none, false⟩, ⟨7, none, false⟩, ⟨8, none, false⟩]), (8, [⟨5, none, false⟩, ⟨6, none, false⟩, ⟨7, none, false⟩, ⟨8, none, false⟩, ⟨9, none, false⟩])]
def spec_FeaturesMeet.ret (r0 : Int) : Option (HL eΓ [.i .i64]) := some (r0, ())
def spec_FeaturesMeet.p5 (k : Nat) (x5 : Int) (x8 : Int) (x6 : List S95) (x7 : List S95) : Option (HL eΓ [.i .i64]) := evM env spec_FeaturesMeet.Fs Try.f49.ntmps spec_FeaturesMeet.fin spec_FeaturesMeet.cut k [.code (sub_ [1, 1, 1, 1, 0, 1, 0, 0, 0, 0] (bodyOf Try.f49)), .code (sub_ [1, 1, 1, 1, 0, 1, 0, 0, 0, 1] (bodyOf Try.f49)), .code (sub_ [1, 1, 1, 1, 0, 1, 0, 0, 1] (bodyOf Try.f49)), .lp (sub_ [1, 1, 1, 1, 0, 1, 0, 0] (bodyOf Try.f49)), .blk 0, .code (sub_ [1, 1, 1, 1, 1] (bodyOf Try.f49))] (mkSt [(5, .c (.v (.int .i64 x5))), (6, .c (.sl 0)), (7, .c (.sl 1)), (8, .c (.v (.int .i64 x8)))] [.row .own 95 (.st .s95) x6, .row .own 95 (.st .s95) x7])
def spec_FeaturesMeet.p8 (k : Nat) (x5 : Int) (x8 : Int) (x9 : Int) (x6 : List S95) (x7 : List S95) : Option (HL eΓ [.i .i64]) := evM env spec_FeaturesMeet.Fs Try.f49.ntmps spec_FeaturesMeet.fin spec_FeaturesMeet.cut k [.code (sub_ [1, 1, 1, 1, 0, 1, 0, 0, 1, 0, 0, 1, 0, 0, 0, 0] (bodyOf Try.f49)), .code (sub_ [1, 1, 1, 1, 0, 1, 0, 0, 1, 0, 0, 1, 0, 0, 0, 1] (bodyOf Try.f49)), .code (sub_ [1, 1, 1, 1, 0, 1, 0, 0, 1, 0, 0, 1, 0, 0, 1] (bodyOf Try.f49)), .lp (sub_ [1, 1, 1, 1, 0, 1, 0, 0, 1, 0, 0, 1, 0, 0] (bodyOf Try.f49)), .blk 2, .blk 1, .code (sub_ [1, 1, 1, 1, 0, 1, 0, 0, 1, 1] (bodyOf Try.f49)), .lp (sub_ [1, 1, 1, 1, 0, 1, 0, 0] (bodyOf Try.f49)), .blk 0, .code (sub_ [1, 1, 1, 1, 1] (bodyOf Try.f49))] (mkSt [(5, .c (.v (.int .i64 x5))), (6, .c (.sl 0)), (7, .c (.sl 1)), (8, .c (.v (.int .i64 x8))), (9, .c (.v (.int .i64 x9)))] [.row .own 95 (.st .s95) x6, .row .own 95 (.st .s95) x7])
theorem spec_FeaturesMeet.e5 (k : Nat) (x5 : Int) (x8 : Int) (x6 : List S95) (x7 : List S95) : spec_FeaturesMeet.p5 (k + 1) x5 x8 x6 x7 = if x8 < (x6.length : Int) then (spec_FeaturesMeet.p8 k x5 x8 0 x6 x7) else (spec_FeaturesMeet.ret x5) := by kernel_rfl
theorem spec_FeaturesMeet.e8 (k : Nat) (x5 : Int) (x8 : Int) (x9 : Int) (x6 : List S95) (x7 : List S95) : spec_FeaturesMeet.p8 (k + 1) x5 x8 x9 x6 x7 = if x9 < (x7.length : Int) then (if 0 ≤ x8 then (if x8 < (x6.length : Int) then (if 0 ≤ x9 then (if x9 < (x7.length : Int) then (spec_HowMeet.ap k (⟨(⟨(rd_T95 x6 x8).f0.f0, (rd_T95 x6 x8).f0.f1⟩ : S77), (⟨(rd_T95 x6 x8).f1.f0, (rd_T95 x6 x8).f1.f1⟩ : S77)⟩ : S95) (⟨(⟨(rd_T95 x7 x9).f0.f0, (rd_T95 x7 x9).f0.f1⟩ : S77), (⟨(rd_T95 x7 x9).f1.f0, (rd_T95 x7 x9).f1.f1⟩ : S77)⟩ : S95) fun r1 => spec_Max.ap k x5 r1 fun r2 => spec_FeaturesMeet.p8 k r2 x8 (wrap64 (x9 + 1)) x6 x7) else none) else none) else none) else none) else (spec_FeaturesMeet.p5 k x5 (wrap64 (x8 + 1)) x6 x7) := by kernel_rfl
def spec_FeaturesMeet.run (k : Nat) (h : HL eΓ [.st .s28, .st .s28]) : Option (HL eΓ [.i .i64]) := evF env spec_FeaturesMeet.Fs Try.f49 spec_FeaturesMeet.cut [.st .s28, .st .s28] [.i .i64] k h
theorem spec_FeaturesMeet.ef (k : Nat) (h0 : S28) (h1 : S28) : spec_FeaturesMeet.run k (h0, h1, ()) = spec_PartsOf.ap k (⟨h0.f0, h0.f1, h0.f2, h0.f3, h0.f4⟩ : S28) fun r1 => spec_PartsOf.ap k (⟨h1.f0, h1.f1, h1.f2, h1.f3, h1.f4⟩ : S28) fun r2 => spec_FeaturesMeet.p5 k 0 0 r1 r2 := by kernel_rfl
def spec_FeaturesMeet.toH (t : Int) : HL eΓ [.i .i64] := (t, ())
def spec_FeaturesMeet.spec : Spc env := ⟨49, [.st .s28, .st .s28], [.i .i64], spec_FeaturesMeet.run⟩
def spec_FeaturesMeet.ap {R : Type} (k : Nat) (h0 : S28) (h1 : S28) (K : Int → Option R) : Option R := (spec_FeaturesMeet.run k (h0, h1, ())).bind fun r => K (r.1 : Int)
theorem spec_FeaturesMeet.ap_of {R : Type} {k : Nat} {h0 : S28} {h1 : S28} {r0 : Int} {K : Int → Option R} (h : spec_FeaturesMeet.run k (h0, h1, ()) = some (r0, ())) : spec_FeaturesMeet.ap k h0 h1 K = K r0 := by unfold spec_FeaturesMeet.ap; rw [h]; rfl
theorem spec_FeaturesMeet.snd : Snd env spec_FeaturesMeet.spec := evF_snd env_ok (sndC spec_PartsOf.snd (sndC spec_HowMeet.snd (sndC spec_Max.snd (sndN))))
attribute [local irreducible] spec_FeaturesMeet.run
theorem spec_FeaturesMeet.rt (a0 : Int) : spec_FeaturesMeet.ret a0 = some (spec_FeaturesMeet.toH (a0)) := rfl
theorem spec_FeaturesMeet.br (n : Nat) : (∀ K, n ≤ K → ∀ (x5 : Int) (x8 : Int) (x6 : List S95) (x7 : List S95) t, spec_FeaturesMeet.l0 n x5 x6 x7 x8 = some t → spec_FeaturesMeet.p5 K x5 x8 x6 x7 = some (spec_FeaturesMeet.toH t)) ∧ (∀ K, n ≤ K → ∀ (x5 : Int) (x8 : Int) (x9 : Int) (x6 : List S95) (x7 : List S95) t, spec_FeaturesMeet.l1 n x5 x6 x7 x8 x9 = some t → spec_FeaturesMeet.p8 K x5 x8 x9 x6 x7 = some (spec_FeaturesMeet.toH t)) := by
  induction n using Nat.strongRecOn with
  | _ n ih =>
  refine ⟨fun K hK x5 x8 x6 x7 t h => ?_, fun K hK x5 x8 x9 x6 x7 t h => ?_⟩
  all_goals (rcases n with _ | k)
  all_goals (try (exact nos h))
  all_goals (obtain ⟨K, rfl⟩ : ∃ q, K = q + 1 := ⟨K - 1, by omega⟩)
  all_goals (first | rw [spec_FeaturesMeet.e5] | rw [spec_FeaturesMeet.e8])
  all_goals (simp only [spec_FeaturesMeet.l0, spec_FeaturesMeet.l1] at h)
  repeat' (with_reducible first
   | exact nos h
   | (cases some_inj h; exact spec_FeaturesMeet.rt _)
   | exact (ih _ (by omega)).1 _ (by omega) _ _ _ _ _ h
   | exact (ih _ (by omega)).2 _ (by omega) _ _ _ _ _ _ h
   | (simp only [Option.bind_some] at h)
   | (refine ite_by h ?_ ?_ <;> (intro hc h; (try simp only [nrm] at hc)))
   | refine itT ?_
   | refine itF ?_
   | (refine bind_by h (fun t ht h => ?_); (first | refine (spec_PartsOf.ap_of (spec_PartsOf.go ht _ (by omega))).trans ?_ | refine (spec_HowMeet.ap_of (spec_HowMeet.go ht _)).trans ?_ | refine (spec_Max.ap_of (spec_Max.go ht _)).trans ?_); (try dsimp only at h ⊢))
   | (simp only [nr2] at h ⊢)
   | (exfalso; omega))
theorem spec_FeaturesMeet.go {k : Nat} {a0_0 : Int} {a0_1 : Int} {a0_2 : Int} {a0_3 : ByteArray} {l0_4 : List S77} {a1_0 : Int} {a1_1 : Int} {a1_2 : Int} {a1_3 : ByteArray} {l1_4 : List S77} {t} (h : spec_FeaturesMeet.f k a0_0 a0_1 a0_2 a0_3 l0_4 a1_0 a1_1 a1_2 a1_3 l1_4 = some t) (K : Nat) (hK : k ≤ K) : spec_FeaturesMeet.run K ((⟨a0_0, a0_1, a0_2, a0_3, l0_4⟩ : S28), (⟨a1_0, a1_1, a1_2, a1_3, l1_4⟩ : S28), ()) = some (spec_FeaturesMeet.toH t) := by
  rw [spec_FeaturesMeet.ef]
  (try dsimp only)
  unfold spec_FeaturesMeet.f at h
  repeat' (with_reducible first
   | exact nos h
   | (cases some_inj h; exact spec_FeaturesMeet.rt _)
   | exact (spec_FeaturesMeet.br _).1 _ (by omega) _ _ _ _ _ h
   | exact (spec_FeaturesMeet.br _).2 _ (by omega) _ _ _ _ _ _ h
   | (simp only [Option.bind_some] at h)
   | (refine ite_by h ?_ ?_ <;> (intro hc h; (try simp only [nrm] at hc)))
   | refine itT ?_
   | refine itF ?_
   | (refine bind_by h (fun t ht h => ?_); (first | refine (spec_PartsOf.ap_of (spec_PartsOf.go ht _ (by omega))).trans ?_ | refine (spec_HowMeet.ap_of (spec_HowMeet.go ht _)).trans ?_ | refine (spec_Max.ap_of (spec_Max.go ht _)).trans ?_); (try dsimp only at h ⊢))
   | (simp only [nr2] at h ⊢)
   | (exfalso; omega))
def spec_CanShrink.Fs : List (Spc env) := [spec_DropFrom.spec, spec_FeaturesMeet.spec]
def spec_CanShrink.fin : St eΓ → Option (HL eΓ [.b]) := finR env Try.f16.results.toList [.b]
def spec_CanShrink.cut : Nat → Option (List (Lv SC)) := lk [(3, [⟨2, none, false⟩, ⟨3, none, false⟩, ⟨7, none, false⟩, ⟨8, none, false⟩, ⟨9, none, false⟩])]
def spec_CanShrink.ret (r0 : Bool) : Option (HL eΓ [.b]) := some (r0, ())
def spec_CanShrink.p3 (k : Nat) (x8 : Bool) (x9 : Int) (x2 : List S28) (b1_0 : Int) (b1_1 : Int) (b1_2 : Int) (b1_3 : ByteArray) (b2_0 : Int) (b2_1 : Int) (b2_2 : Int) (b2_3 : ByteArray) (b3 : List S77) (b4 : List S77) : Option (HL eΓ [.b]) := evM env spec_CanShrink.Fs Try.f16.ntmps spec_CanShrink.fin spec_CanShrink.cut k [.code (sub_ [1, 1, 0, 1, 0, 0, 0, 0] (bodyOf Try.f16)), .code (sub_ [1, 1, 0, 1, 0, 0, 0, 1] (bodyOf Try.f16)), .code (sub_ [1, 1, 0, 1, 0, 0, 1] (bodyOf Try.f16)), .lp (sub_ [1, 1, 0, 1, 0, 0] (bodyOf Try.f16)), .blk 0, .code (sub_ [1, 1, 1] (bodyOf Try.f16))] (mkSt [(2, .c (.sl 0)), (3, .c (.ptr 1 0)), (7, .c (.ptr 2 0)), (8, .c (.v (.bool x8))), (9, .c (.v (.int .i64 x9)))] [.row .ro 28 (.st .s28) x2, .box 28 [.v (.int .i64 b1_0), .v (.int .i64 b1_1), .v (.int .i64 b1_2), .v (.string b1_3), .sl 3], .box 28 [.v (.int .i64 b2_0), .v (.int .i64 b2_1), .v (.int .i64 b2_2), .v (.string b2_3), .sl 4], .row .ro 77 (.st .s77) b3, .row .own 77 (.st .s77) b4])
theorem spec_CanShrink.e3 (k : Nat) (x8 : Bool) (x9 : Int) (x2 : List S28) (b1_0 : Int) (b1_1 : Int) (b1_2 : Int) (b1_3 : ByteArray) (b2_0 : Int) (b2_1 : Int) (b2_2 : Int) (b2_3 : ByteArray) (b3 : List S77) (b4 : List S77) : spec_CanShrink.p3 (k + 1) x8 x9 x2 b1_0 b1_1 b1_2 b1_3 b2_0 b2_1 b2_2 b2_3 b3 b4 = if x9 < (x2.length : Int) then (if x8 = true then (if 0 ≤ x9 then (if x9 < (x2.length : Int) then (spec_FeaturesMeet.ap k (⟨b2_0, b2_1, b2_2, b2_3, b4⟩ : S28) (⟨(rd_T28 x2 x9).f0, (rd_T28 x2 x9).f1, (rd_T28 x2 x9).f2, (rd_T28 x2 x9).f3, (rd_T28 x2 x9).f4⟩ : S28) fun r1 => if 0 ≤ x9 then (if x9 < (x2.length : Int) then (spec_FeaturesMeet.ap k (⟨b1_0, b1_1, b1_2, b1_3, b3⟩ : S28) (⟨(rd_T28 x2 x9).f0, (rd_T28 x2 x9).f1, (rd_T28 x2 x9).f2, (rd_T28 x2 x9).f3, (rd_T28 x2 x9).f4⟩ : S28) fun r2 => spec_CanShrink.p3 k (decide (r1 ≤ r2)) (wrap64 (x9 + 1)) x2 b1_0 b1_1 b1_2 b1_3 b2_0 b2_1 b2_2 b2_3 b3 b4) else none) else none) else none) else none) else (spec_CanShrink.ret x8)) else (spec_CanShrink.ret x8) := by kernel_rfl
def spec_CanShrink.run (k : Nat) (h : HL eΓ [.st .s28, .i .i64, .l 28 (.st .s28)]) : Option (HL eΓ [.b]) := evF env spec_CanShrink.Fs Try.f16 spec_CanShrink.cut [.st .s28, .i .i64, .l 28 (.st .s28)] [.b] k h
theorem spec_CanShrink.ef (k : Nat) (h0 : S28) (h1 : Int) (h2 : List S28) : spec_CanShrink.run k (h0, h1, h2, ()) = spec_DropFrom.ap k (⟨h0.f0, h0.f1, h0.f2, h0.f3, h0.f4⟩ : S28) h1 fun r1_0 r1_1 => spec_CanShrink.p3 k r1_1 0 h2 h0.f0 h0.f1 h0.f2 h0.f3 r1_0.f0 r1_0.f1 r1_0.f2 r1_0.f3 h0.f4 r1_0.f4 := by kernel_rfl
def spec_CanShrink.toH (t : Bool) : HL eΓ [.b] := (t, ())
def spec_CanShrink.spec : Spc env := ⟨16, [.st .s28, .i .i64, .l 28 (.st .s28)], [.b], spec_CanShrink.run⟩
def spec_CanShrink.ap {R : Type} (k : Nat) (h0 : S28) (h1 : Int) (h2 : List S28) (K : Bool → Option R) : Option R := (spec_CanShrink.run k (h0, h1, h2, ())).bind fun r => K (r.1 : Bool)
theorem spec_CanShrink.ap_of {R : Type} {k : Nat} {h0 : S28} {h1 : Int} {h2 : List S28} {r0 : Bool} {K : Bool → Option R} (h : spec_CanShrink.run k (h0, h1, h2, ()) = some (r0, ())) : spec_CanShrink.ap k h0 h1 h2 K = K r0 := by unfold spec_CanShrink.ap; rw [h]; rfl
theorem spec_CanShrink.snd : Snd env spec_CanShrink.spec := evF_snd env_ok (sndC spec_DropFrom.snd (sndC spec_FeaturesMeet.snd (sndN)))
attribute [local irreducible] spec_CanShrink.run
theorem spec_CanShrink.rt (a0 : Bool) : spec_CanShrink.ret a0 = some (spec_CanShrink.toH (a0)) := rfl
theorem spec_CanShrink.br (n : Nat) : (∀ K, n ≤ K → ∀ (x8 : Bool) (x9 : Int) (x2 : List S28) (b1_0 : Int) (b1_1 : Int) (b1_2 : Int) (b1_3 : ByteArray) (b2_0 : Int) (b2_1 : Int) (b2_2 : Int) (b2_3 : ByteArray) (b3 : List S77) (b4 : List S77) t, spec_CanShrink.l0 n x2 x8 x9 b1_0 b1_1 b1_2 b1_3 b3 b2_0 b2_1 b2_2 b2_3 b4 = some t → spec_CanShrink.p3 K x8 x9 x2 b1_0 b1_1 b1_2 b1_3 b2_0 b2_1 b2_2 b2_3 b3 b4 = some (spec_CanShrink.toH t)) := by
  induction n using Nat.strongRecOn with
  | _ n ih =>
  intro K hK x8 x9 x2 b1_0 b1_1 b1_2 b1_3 b2_0 b2_1 b2_2 b2_3 b3 b4 t h
  all_goals (rcases n with _ | k)
  all_goals (try (exact nos h))
  all_goals (obtain ⟨K, rfl⟩ : ∃ q, K = q + 1 := ⟨K - 1, by omega⟩)
  all_goals (first | rw [spec_CanShrink.e3])
  all_goals (simp only [spec_CanShrink.l0] at h)
  repeat' (with_reducible first
   | exact nos h
   | (cases some_inj h; exact spec_CanShrink.rt _)
   | exact (ih _ (by omega)) _ (by omega) _ _ _ _ _ _ _ _ _ _ _ _ _ _ h
   | ((have q : spec_CanShrink.j1 k _ _ _ _ _ _ _ _ _ _ _ _ _ _ = some _ := h; clear q); rcases k with _ | k <;> simp only [spec_CanShrink.j1, reduceCtorEq] at h)
   | (simp only [Option.bind_some] at h)
   | (refine ite_by h ?_ ?_ <;> (intro hc h; (try simp only [nrm] at hc)))
   | refine itT ?_
   | refine itF ?_
   | (refine bind_by h (fun t ht h => ?_); (first | refine (spec_DropFrom.ap_of (spec_DropFrom.go ht _ (by omega))).trans ?_ | refine (spec_FeaturesMeet.ap_of (spec_FeaturesMeet.go ht _ (by omega))).trans ?_); (try dsimp only at h ⊢))
   | (simp only [nr2] at h ⊢)
   | (exfalso; omega))
theorem spec_CanShrink.go {k : Nat} {a0_0 : Int} {a0_1 : Int} {a0_2 : Int} {a0_3 : ByteArray} {l0_4 : List S77} {a1 : Int} {l2 : List S28} {t} (h : spec_CanShrink.f k a0_0 a0_1 a0_2 a0_3 l0_4 a1 l2 = some t) (K : Nat) (hK : k ≤ K) : spec_CanShrink.run K ((⟨a0_0, a0_1, a0_2, a0_3, l0_4⟩ : S28), a1, l2, ()) = some (spec_CanShrink.toH t) := by
  rw [spec_CanShrink.ef]
  (try dsimp only)
  unfold spec_CanShrink.f at h
  repeat' (with_reducible first
   | exact nos h
   | (cases some_inj h; exact spec_CanShrink.rt _)
   | exact (spec_CanShrink.br _) _ (by omega) _ _ _ _ _ _ _ _ _ _ _ _ _ _ h
   | ((have q : spec_CanShrink.j1 k _ _ _ _ _ _ _ _ _ _ _ _ _ _ = some _ := h; clear q); rcases k with _ | k <;> simp only [spec_CanShrink.j1, reduceCtorEq] at h)
   | (simp only [Option.bind_some] at h)
   | (refine ite_by h ?_ ?_ <;> (intro hc h; (try simp only [nrm] at hc)))
   | refine itT ?_
   | refine itF ?_
   | (refine bind_by h (fun t ht h => ?_); (first | refine (spec_DropFrom.ap_of (spec_DropFrom.go ht _ (by omega))).trans ?_ | refine (spec_FeaturesMeet.ap_of (spec_FeaturesMeet.go ht _ (by omega))).trans ?_); (try dsimp only at h ⊢))
   | (simp only [nr2] at h ⊢)
   | (exfalso; omega))
def spec_CornerArea.Fs : List (Spc env) := [spec_IsLine.spec, spec_l1In.spec, spec_l4Cross.spec, spec_Max.spec]
def spec_CornerArea.cut : Nat → Option (List (Lv SC)) := lk []
def spec_CornerArea.ret (r0 : Int) : Option (HL eΓ [.i .i64]) := some (r0, ())
def spec_CornerArea.run (k : Nat) (h : HL eΓ [.l 77 (.st .s77), .i .i64]) : Option (HL eΓ [.i .i64]) := evF env spec_CornerArea.Fs Try.f90 spec_CornerArea.cut [.l 77 (.st .s77), .i .i64] [.i .i64] k h
theorem spec_CornerArea.ef (k : Nat) (h0 : List S77) (h1 : Int) : spec_CornerArea.run k (h0, h1, ()) = spec_IsLine.ap k h0 fun r1 => if (!r1) = true then (spec_CornerArea.ret (-1)) else (spec_l1In.ap k h1 1 (wrap64 ((h0.length : Int) - 2)) fun r2 => if (!r2) = true then (spec_CornerArea.ret (-1)) else (if 0 ≤ (wrap64 (h1 - 1)) then (if (wrap64 (h1 - 1)) < (h0.length : Int) then (if 0 ≤ h1 then (if h1 < (h0.length : Int) then (if 0 ≤ (wrap64 (h1 + 1)) then (if (wrap64 (h1 + 1)) < (h0.length : Int) then (spec_l4Cross.ap k (⟨(rd_T77 h0 (wrap64 (h1 - 1))).f0, (rd_T77 h0 (wrap64 (h1 - 1))).f1⟩ : S77) (⟨(rd_T77 h0 h1).f0, (rd_T77 h0 h1).f1⟩ : S77) (⟨(rd_T77 h0 (wrap64 (h1 + 1))).f0, (rd_T77 h0 (wrap64 (h1 + 1))).f1⟩ : S77) fun r3 => spec_Max.ap k r3 (wrap64 (0 - r3)) fun r4 => spec_CornerArea.ret r4) else none) else none) else none) else none) else none) else none)) := by kernel_rfl
def spec_CornerArea.toH (t : Int) : HL eΓ [.i .i64] := (t, ())
def spec_CornerArea.spec : Spc env := ⟨90, [.l 77 (.st .s77), .i .i64], [.i .i64], spec_CornerArea.run⟩
def spec_CornerArea.ap {R : Type} (k : Nat) (h0 : List S77) (h1 : Int) (K : Int → Option R) : Option R := (spec_CornerArea.run k (h0, h1, ())).bind fun r => K (r.1 : Int)
theorem spec_CornerArea.ap_of {R : Type} {k : Nat} {h0 : List S77} {h1 : Int} {r0 : Int} {K : Int → Option R} (h : spec_CornerArea.run k (h0, h1, ()) = some (r0, ())) : spec_CornerArea.ap k h0 h1 K = K r0 := by unfold spec_CornerArea.ap; rw [h]; rfl
theorem spec_CornerArea.snd : Snd env spec_CornerArea.spec := evF_snd env_ok (sndC spec_IsLine.snd (sndC spec_l1In.snd (sndC spec_l4Cross.snd (sndC spec_Max.snd (sndN)))))
attribute [local irreducible] spec_CornerArea.run
theorem spec_CornerArea.rt (a0 : Int) : spec_CornerArea.ret a0 = some (spec_CornerArea.toH (a0)) := rfl
theorem spec_CornerArea.go {k : Nat} {l0 : List S77} {a1 : Int} {t} (h : spec_CornerArea.f k l0 a1 = some t) (K : Nat) (hK : k ≤ K) : spec_CornerArea.run K (l0, a1, ()) = some (spec_CornerArea.toH t) := by
  rw [spec_CornerArea.ef]
  (try dsimp only)
  unfold spec_CornerArea.f at h
  repeat' (with_reducible first
   | exact nos h
   | (cases some_inj h; exact spec_CornerArea.rt _)
   | ((have q : spec_CornerArea.j0 k _ _ _ = some _ := h; clear q); rcases k with _ | k <;> simp only [spec_CornerArea.j0, reduceCtorEq] at h)
   | (simp only [Option.bind_some] at h)
   | (refine ite_by h ?_ ?_ <;> (intro hc h; (try simp only [nrm] at hc)))
   | refine itT ?_
   | refine itF ?_
   | (refine bind_by h (fun t ht h => ?_); (first | refine (spec_IsLine.ap_of (spec_IsLine.go ht _ (by omega))).trans ?_ | refine (spec_l1In.ap_of (spec_l1In.go ht _)).trans ?_ | refine (spec_l4Cross.ap_of (spec_l4Cross.go ht _)).trans ?_ | refine (spec_Max.ap_of (spec_Max.go ht _)).trans ?_); (try dsimp only at h ⊢))
   | (simp only [nr2, Int.zero_sub] at h ⊢)
   | (exfalso; omega))
def spec_CornerSize.Fs : List (Spc env) := [spec_IsRing.spec, spec_l1In.spec, spec_l4Cross.spec, spec_Max.spec]
def spec_CornerSize.cut : Nat → Option (List (Lv SC)) := lk []
def spec_CornerSize.ret (r0 : Int) : Option (HL eΓ [.i .i64]) := some (r0, ())
def spec_CornerSize.run (k : Nat) (h : HL eΓ [.l 77 (.st .s77), .i .i64]) : Option (HL eΓ [.i .i64]) := evF env spec_CornerSize.Fs Try.f91 spec_CornerSize.cut [.l 77 (.st .s77), .i .i64] [.i .i64] k h
theorem spec_CornerSize.ef (k : Nat) (h0 : List S77) (h1 : Int) : spec_CornerSize.run k (h0, h1, ()) = spec_IsRing.ap k h0 fun r1 => if (!r1) = true then (spec_CornerSize.ret (-1)) else (spec_l1In.ap k h1 0 (wrap64 ((h0.length : Int) - 1)) fun r2 => if (!r2) = true then (spec_CornerSize.ret (-1)) else (if (h0.length : Int) = 0 then none else (if 0 ≤ (Int.tmod (wrap64 ((wrap64 (h1 + (h0.length : Int))) - 1)) (h0.length : Int)) then (if (Int.tmod (wrap64 ((wrap64 (h1 + (h0.length : Int))) - 1)) (h0.length : Int)) < (h0.length : Int) then (if 0 ≤ h1 then (if h1 < (h0.length : Int) then (if (h0.length : Int) = 0 then none else (if 0 ≤ (Int.tmod (wrap64 (h1 + 1)) (h0.length : Int)) then (if (Int.tmod (wrap64 (h1 + 1)) (h0.length : Int)) < (h0.length : Int) then (spec_l4Cross.ap k (⟨(rd_T77 h0 (Int.tmod (wrap64 ((wrap64 (h1 + (h0.length : Int))) - 1)) (h0.length : Int))).f0, (rd_T77 h0 (Int.tmod (wrap64 ((wrap64 (h1 + (h0.length : Int))) - 1)) (h0.length : Int))).f1⟩ : S77) (⟨(rd_T77 h0 h1).f0, (rd_T77 h0 h1).f1⟩ : S77) (⟨(rd_T77 h0 (Int.tmod (wrap64 (h1 + 1)) (h0.length : Int))).f0, (rd_T77 h0 (Int.tmod (wrap64 (h1 + 1)) (h0.length : Int))).f1⟩ : S77) fun r3 => spec_Max.ap k r3 (wrap64 (0 - r3)) fun r4 => spec_CornerSize.ret r4) else none) else none)) else none) else none) else none) else none))) := by kernel_rfl
def spec_CornerSize.toH (t : Int) : HL eΓ [.i .i64] := (t, ())
def spec_CornerSize.spec : Spc env := ⟨91, [.l 77 (.st .s77), .i .i64], [.i .i64], spec_CornerSize.run⟩
def spec_CornerSize.ap {R : Type} (k : Nat) (h0 : List S77) (h1 : Int) (K : Int → Option R) : Option R := (spec_CornerSize.run k (h0, h1, ())).bind fun r => K (r.1 : Int)
theorem spec_CornerSize.ap_of {R : Type} {k : Nat} {h0 : List S77} {h1 : Int} {r0 : Int} {K : Int → Option R} (h : spec_CornerSize.run k (h0, h1, ()) = some (r0, ())) : spec_CornerSize.ap k h0 h1 K = K r0 := by unfold spec_CornerSize.ap; rw [h]; rfl
theorem spec_CornerSize.snd : Snd env spec_CornerSize.spec := evF_snd env_ok (sndC spec_IsRing.snd (sndC spec_l1In.snd (sndC spec_l4Cross.snd (sndC spec_Max.snd (sndN)))))
attribute [local irreducible] spec_CornerSize.run
theorem spec_CornerSize.rt (a0 : Int) : spec_CornerSize.ret a0 = some (spec_CornerSize.toH (a0)) := rfl
theorem spec_CornerSize.go {k : Nat} {l0 : List S77} {a1 : Int} {t} (h : spec_CornerSize.f k l0 a1 = some t) (K : Nat) (hK : k ≤ K) : spec_CornerSize.run K (l0, a1, ()) = some (spec_CornerSize.toH t) := by
  rw [spec_CornerSize.ef]
  (try dsimp only)
  unfold spec_CornerSize.f at h
  repeat' (with_reducible first
   | exact nos h
   | (cases some_inj h; exact spec_CornerSize.rt _)
   | ((have q : spec_CornerSize.j0 k _ _ _ = some _ := h; clear q); rcases k with _ | k <;> simp only [spec_CornerSize.j0, reduceCtorEq] at h)
   | (simp only [Option.bind_some] at h)
   | (refine ite_by h ?_ ?_ <;> (intro hc h; (try simp only [nrm] at hc)))
   | refine itT ?_
   | refine itF ?_
   | (refine bind_by h (fun t ht h => ?_); (first | refine (spec_IsRing.ap_of (spec_IsRing.go ht _ (by omega))).trans ?_ | refine (spec_l1In.ap_of (spec_l1In.go ht _)).trans ?_ | refine (spec_l4Cross.ap_of (spec_l4Cross.go ht _)).trans ?_ | refine (spec_Max.ap_of (spec_Max.go ht _)).trans ?_); (try dsimp only at h ⊢))
   | (simp only [nr2, Int.zero_sub] at h ⊢)
   | (exfalso; omega))
def spec_SizeAt.Fs : List (Spc env) := [spec_CornerArea.spec, spec_CornerSize.spec]
def spec_SizeAt.cut : Nat → Option (List (Lv SC)) := lk []
def spec_SizeAt.ret (r0 : Int) : Option (HL eΓ [.i .i64]) := some (r0, ())
def spec_SizeAt.run (k : Nat) (h : HL eΓ [.st .s28, .i .i64]) : Option (HL eΓ [.i .i64]) := evF env spec_SizeAt.Fs Try.f51 spec_SizeAt.cut [.st .s28, .i .i64] [.i .i64] k h
theorem spec_SizeAt.ef (k : Nat) (h0 : S28) (h1 : Int) : spec_SizeAt.run k (h0, h1, ()) = if h0.f1 = 2 then (spec_CornerArea.ap k h0.f4 h1 fun r1 => spec_SizeAt.ret r1) else (if h0.f1 = 3 then (spec_CornerSize.ap k h0.f4 h1 fun r2 => spec_SizeAt.ret r2) else (spec_SizeAt.ret (-1))) := by kernel_rfl
def spec_SizeAt.toH (t : Int) : HL eΓ [.i .i64] := (t, ())
def spec_SizeAt.spec : Spc env := ⟨51, [.st .s28, .i .i64], [.i .i64], spec_SizeAt.run⟩
def spec_SizeAt.ap {R : Type} (k : Nat) (h0 : S28) (h1 : Int) (K : Int → Option R) : Option R := (spec_SizeAt.run k (h0, h1, ())).bind fun r => K (r.1 : Int)
theorem spec_SizeAt.ap_of {R : Type} {k : Nat} {h0 : S28} {h1 : Int} {r0 : Int} {K : Int → Option R} (h : spec_SizeAt.run k (h0, h1, ()) = some (r0, ())) : spec_SizeAt.ap k h0 h1 K = K r0 := by unfold spec_SizeAt.ap; rw [h]; rfl
theorem spec_SizeAt.snd : Snd env spec_SizeAt.spec := evF_snd env_ok (sndC spec_CornerArea.snd (sndC spec_CornerSize.snd (sndN)))
attribute [local irreducible] spec_SizeAt.run
theorem spec_SizeAt.rt (a0 : Int) : spec_SizeAt.ret a0 = some (spec_SizeAt.toH (a0)) := rfl
theorem spec_SizeAt.go {k : Nat} {a0_0 : Int} {a0_1 : Int} {a0_2 : Int} {a0_3 : ByteArray} {l0_4 : List S77} {a1 : Int} {t} (h : spec_SizeAt.f k a0_0 a0_1 a0_2 a0_3 l0_4 a1 = some t) (K : Nat) (hK : k ≤ K) : spec_SizeAt.run K ((⟨a0_0, a0_1, a0_2, a0_3, l0_4⟩ : S28), a1, ()) = some (spec_SizeAt.toH t) := by
  rw [spec_SizeAt.ef]
  (try dsimp only)
  unfold spec_SizeAt.f at h
  repeat' (with_reducible first
   | exact nos h
   | (cases some_inj h; exact spec_SizeAt.rt _)
   | (simp only [Option.bind_some] at h)
   | (refine ite_by h ?_ ?_ <;> (intro hc h; (try simp only [nrm] at hc)))
   | refine itT ?_
   | refine itF ?_
   | (refine bind_by h (fun t ht h => ?_); (first | refine (spec_CornerArea.ap_of (spec_CornerArea.go ht _ (by omega))).trans ?_ | refine (spec_CornerSize.ap_of (spec_CornerSize.go ht _ (by omega))).trans ?_); (try dsimp only at h ⊢))
   | (simp only [nr2] at h ⊢)
   | (exfalso; omega))
def spec_ShrinkFeature.Fs : List (Spc env) := [spec_l9Feature.spec, spec_IsFeature.spec, spec_SizeAt.spec, spec_CanShrink.spec, spec_DropFrom.spec]
def spec_ShrinkFeature.fin : St eΓ → Option (HL eΓ [.st .s28]) := finR env Try.f20.results.toList [.st .s28]
def spec_ShrinkFeature.cut : Nat → Option (List (Lv SC)) := lk [(2, [⟨1, none, false⟩, ⟨2, none, false⟩, ⟨3, none, false⟩, ⟨6, none, false⟩, ⟨7, none, false⟩]), (5, [⟨1, none, false⟩, ⟨2, none, false⟩, ⟨3, none, false⟩, ⟨6, none, false⟩, ⟨7, none, false⟩, ⟨8, none, false⟩, ⟨9, none, false⟩])]
def spec_ShrinkFeature.ret (r0 : S28) : Option (HL eΓ [.st .s28]) := some (r0, ())
def spec_ShrinkFeature.p2 (k : Nat) (x2 : Int) (x1 : List S28) (b1_0 : Int) (b1_1 : Int) (b1_2 : Int) (b1_3 : ByteArray) (b2_0 : Int) (b2_1 : Int) (b2_2 : Int) (b2_3 : ByteArray) (b3_0 : Int) (b3_1 : Int) (b3_2 : Int) (b3_3 : ByteArray) (b4 : List S77) (b5 : List S77) : Option (HL eΓ [.st .s28]) := evM env spec_ShrinkFeature.Fs Try.f20.ntmps spec_ShrinkFeature.fin spec_ShrinkFeature.cut k [.code (sub_ [1, 1, 0, 0, 0, 0, 0] (bodyOf Try.f20)), .code (sub_ [1, 1, 0, 0, 0, 0, 1] (bodyOf Try.f20)), .code (sub_ [1, 1, 0, 0, 0, 1] (bodyOf Try.f20)), .lp (sub_ [1, 1, 0, 0, 0] (bodyOf Try.f20)), .blk 0, .code (sub_ [1, 1, 1] (bodyOf Try.f20))] (mkSt [(1, .c (.sl 0)), (2, .c (.v (.int .i64 x2))), (3, .c (.ptr 1 0)), (6, .c (.ptr 2 0)), (7, .c (.ptr 3 0))] [.row .ro 28 (.st .s28) x1, .box 28 [.v (.int .i64 b1_0), .v (.int .i64 b1_1), .v (.int .i64 b1_2), .v (.string b1_3), .sl 4], .box 28 [.v (.int .i64 b2_0), .v (.int .i64 b2_1), .v (.int .i64 b2_2), .v (.string b2_3), .v (.slice none 0 0)], .box 28 [.v (.int .i64 b3_0), .v (.int .i64 b3_1), .v (.int .i64 b3_2), .v (.string b3_3), .sl 5], .row .ro 77 (.st .s77) b4, .row .own 77 (.st .s77) b5])
def spec_ShrinkFeature.p5 (k : Nat) (x2 : Int) (x8 : Int) (x9 : Int) (x1 : List S28) (b1_0 : Int) (b1_1 : Int) (b1_2 : Int) (b1_3 : ByteArray) (b2_0 : Int) (b2_1 : Int) (b2_2 : Int) (b2_3 : ByteArray) (b3_0 : Int) (b3_1 : Int) (b3_2 : Int) (b3_3 : ByteArray) (b4 : List S77) (b5 : List S77) : Option (HL eΓ [.st .s28]) := evM env spec_ShrinkFeature.Fs Try.f20.ntmps spec_ShrinkFeature.fin spec_ShrinkFeature.cut k [.code (sub_ [1, 1, 0, 0, 0, 1, 0, 1, 0, 1, 0, 0, 0, 0] (bodyOf Try.f20)), .code (sub_ [1, 1, 0, 0, 0, 1, 0, 1, 0, 1, 0, 0, 0, 1] (bodyOf Try.f20)), .code (sub_ [1, 1, 0, 0, 0, 1, 0, 1, 0, 1, 0, 0, 1] (bodyOf Try.f20)), .lp (sub_ [1, 1, 0, 0, 0, 1, 0, 1, 0, 1, 0, 0] (bodyOf Try.f20)), .blk 2, .code (sub_ [1, 1, 0, 0, 0, 1, 0, 1, 1] (bodyOf Try.f20)), .blk 1, .lp (sub_ [1, 1, 0, 0, 0] (bodyOf Try.f20)), .blk 0, .code (sub_ [1, 1, 1] (bodyOf Try.f20))] (mkSt [(1, .c (.sl 0)), (2, .c (.v (.int .i64 x2))), (3, .c (.ptr 1 0)), (6, .c (.ptr 2 0)), (7, .c (.ptr 3 0)), (8, .c (.v (.int .i64 x8))), (9, .c (.v (.int .i64 x9)))] [.row .ro 28 (.st .s28) x1, .box 28 [.v (.int .i64 b1_0), .v (.int .i64 b1_1), .v (.int .i64 b1_2), .v (.string b1_3), .sl 4], .box 28 [.v (.int .i64 b2_0), .v (.int .i64 b2_1), .v (.int .i64 b2_2), .v (.string b2_3), .v (.slice none 0 0)], .box 28 [.v (.int .i64 b3_0), .v (.int .i64 b3_1), .v (.int .i64 b3_2), .v (.string b3_3), .sl 5], .row .ro 77 (.st .s77) b4, .row .own 77 (.st .s77) b5])
theorem spec_ShrinkFeature.e2 (k : Nat) (x2 : Int) (x1 : List S28) (b1_0 : Int) (b1_1 : Int) (b1_2 : Int) (b1_3 : ByteArray) (b2_0 : Int) (b2_1 : Int) (b2_2 : Int) (b2_3 : ByteArray) (b3_0 : Int) (b3_1 : Int) (b3_2 : Int) (b3_3 : ByteArray) (b4 : List S77) (b5 : List S77) : spec_ShrinkFeature.p2 (k + 1) x2 x1 b1_0 b1_1 b1_2 b1_3 b2_0 b2_1 b2_2 b2_3 b3_0 b3_1 b3_2 b3_3 b4 b5 = spec_IsFeature.ap k (⟨b1_0, b1_1, b1_2, b1_3, b4⟩ : S28) fun r1 => if r1 = true then (spec_ShrinkFeature.p5 k x2 (-1) 0 x1 b1_0 b1_1 b1_2 b1_3 b2_0 b2_1 b2_2 b2_3 b3_0 b3_1 b3_2 b3_3 b4 b5) else (spec_ShrinkFeature.ret (⟨b3_0, b3_1, b3_2, b3_3, b5⟩ : S28)) := by kernel_rfl
theorem spec_ShrinkFeature.e5 (k : Nat) (x2 : Int) (x8 : Int) (x9 : Int) (x1 : List S28) (b1_0 : Int) (b1_1 : Int) (b1_2 : Int) (b1_3 : ByteArray) (b2_0 : Int) (b2_1 : Int) (b2_2 : Int) (b2_3 : ByteArray) (b3_0 : Int) (b3_1 : Int) (b3_2 : Int) (b3_3 : ByteArray) (b4 : List S77) (b5 : List S77) : spec_ShrinkFeature.p5 (k + 1) x2 x8 x9 x1 b1_0 b1_1 b1_2 b1_3 b2_0 b2_1 b2_2 b2_3 b3_0 b3_1 b3_2 b3_3 b4 b5 = if x9 < (b5.length : Int) then (spec_SizeAt.ap k (⟨b3_0, b3_1, b3_2, b3_3, b5⟩ : S28) x9 fun r1 => if r1 ≥ 0 then (if r1 < x2 then (if x8 < 0 then (spec_CanShrink.ap k (⟨b3_0, b3_1, b3_2, b3_3, b5⟩ : S28) x9 x1 fun r2 => if r2 = true then (spec_ShrinkFeature.p5 k x2 x9 (wrap64 (x9 + 1)) x1 b1_0 b1_1 b1_2 b1_3 b2_0 b2_1 b2_2 b2_3 b3_0 b3_1 b3_2 b3_3 b4 b5) else (spec_ShrinkFeature.p5 k x2 x8 (wrap64 (x9 + 1)) x1 b1_0 b1_1 b1_2 b1_3 b2_0 b2_1 b2_2 b2_3 b3_0 b3_1 b3_2 b3_3 b4 b5)) else (spec_SizeAt.ap k (⟨b3_0, b3_1, b3_2, b3_3, b5⟩ : S28) x8 fun r3 => if r1 < r3 then (spec_CanShrink.ap k (⟨b3_0, b3_1, b3_2, b3_3, b5⟩ : S28) x9 x1 fun r4 => if r4 = true then (spec_ShrinkFeature.p5 k x2 x9 (wrap64 (x9 + 1)) x1 b1_0 b1_1 b1_2 b1_3 b2_0 b2_1 b2_2 b2_3 b3_0 b3_1 b3_2 b3_3 b4 b5) else (spec_ShrinkFeature.p5 k x2 x8 (wrap64 (x9 + 1)) x1 b1_0 b1_1 b1_2 b1_3 b2_0 b2_1 b2_2 b2_3 b3_0 b3_1 b3_2 b3_3 b4 b5)) else (spec_ShrinkFeature.p5 k x2 x8 (wrap64 (x9 + 1)) x1 b1_0 b1_1 b1_2 b1_3 b2_0 b2_1 b2_2 b2_3 b3_0 b3_1 b3_2 b3_3 b4 b5))) else (spec_ShrinkFeature.p5 k x2 x8 (wrap64 (x9 + 1)) x1 b1_0 b1_1 b1_2 b1_3 b2_0 b2_1 b2_2 b2_3 b3_0 b3_1 b3_2 b3_3 b4 b5)) else (spec_ShrinkFeature.p5 k x2 x8 (wrap64 (x9 + 1)) x1 b1_0 b1_1 b1_2 b1_3 b2_0 b2_1 b2_2 b2_3 b3_0 b3_1 b3_2 b3_3 b4 b5)) else (if x8 < 0 then (spec_ShrinkFeature.ret (⟨b3_0, b3_1, b3_2, b3_3, b5⟩ : S28)) else (spec_DropFrom.ap k (⟨b3_0, b3_1, b3_2, b3_3, b5⟩ : S28) x8 fun r5_0 r5_1 => spec_ShrinkFeature.p2 k x2 x1 b1_0 b1_1 b1_2 b1_3 b2_0 b2_1 b2_2 b2_3 r5_0.f0 r5_0.f1 r5_0.f2 r5_0.f3 b4 r5_0.f4)) := by kernel_rfl
def spec_ShrinkFeature.run (k : Nat) (h : HL eΓ [.st .s28, .l 28 (.st .s28), .i .i64]) : Option (HL eΓ [.st .s28]) := evF env spec_ShrinkFeature.Fs Try.f20 spec_ShrinkFeature.cut [.st .s28, .l 28 (.st .s28), .i .i64] [.st .s28] k h
theorem spec_ShrinkFeature.ef (k : Nat) (h0 : S28) (h1 : List S28) (h2 : Int) : spec_ShrinkFeature.run k (h0, h1, h2, ()) = spec_l9Feature.ap k (⟨h0.f0, h0.f1, h0.f2, h0.f3, h0.f4⟩ : S28) fun r1 => spec_ShrinkFeature.p2 k h2 h1 h0.f0 h0.f1 h0.f2 h0.f3 0 0 0 (⟨#[]⟩ : ByteArray) r1.f0 r1.f1 r1.f2 r1.f3 h0.f4 r1.f4 := by kernel_rfl
def spec_ShrinkFeature.toH (t : Int × Int × Int × ByteArray × (List (S77))) : HL eΓ [.st .s28] := ((⟨t.1, t.2.1, t.2.2.1, t.2.2.2.1, t.2.2.2.2⟩ : S28), ())
def spec_ShrinkFeature.spec : Spc env := ⟨20, [.st .s28, .l 28 (.st .s28), .i .i64], [.st .s28], spec_ShrinkFeature.run⟩
theorem spec_ShrinkFeature.snd : Snd env spec_ShrinkFeature.spec := evF_snd env_ok (sndC spec_l9Feature.snd (sndC spec_IsFeature.snd (sndC spec_SizeAt.snd (sndC spec_CanShrink.snd (sndC spec_DropFrom.snd (sndN))))))
attribute [local irreducible] spec_ShrinkFeature.run
theorem spec_ShrinkFeature.rt (a0 : Int) (a1 : Int) (a2 : Int) (a3 : ByteArray) (a4 : List S77) : spec_ShrinkFeature.ret (⟨a0, a1, a2, a3, a4⟩ : S28) = some (spec_ShrinkFeature.toH (a0, a1, a2, a3, a4)) := rfl
theorem spec_ShrinkFeature.br (n : Nat) : (∀ K, n ≤ K → ∀ (x2 : Int) (x1 : List S28) (b1_0 : Int) (b1_1 : Int) (b1_2 : Int) (b1_3 : ByteArray) (b2_0 : Int) (b2_1 : Int) (b2_2 : Int) (b2_3 : ByteArray) (b3_0 : Int) (b3_1 : Int) (b3_2 : Int) (b3_3 : ByteArray) (b4 : List S77) (b5 : List S77) t, spec_ShrinkFeature.l0 n x1 x2 b1_0 b1_1 b1_2 b1_3 b4 b3_0 b3_1 b3_2 b3_3 b5 = some t → spec_ShrinkFeature.p2 K x2 x1 b1_0 b1_1 b1_2 b1_3 b2_0 b2_1 b2_2 b2_3 b3_0 b3_1 b3_2 b3_3 b4 b5 = some (spec_ShrinkFeature.toH t)) ∧ (∀ K, n ≤ K → ∀ (x2 : Int) (x8 : Int) (x9 : Int) (x1 : List S28) (b1_0 : Int) (b1_1 : Int) (b1_2 : Int) (b1_3 : ByteArray) (b2_0 : Int) (b2_1 : Int) (b2_2 : Int) (b2_3 : ByteArray) (b3_0 : Int) (b3_1 : Int) (b3_2 : Int) (b3_3 : ByteArray) (b4 : List S77) (b5 : List S77) t, spec_ShrinkFeature.l1 n x1 x2 x8 x9 b1_0 b1_1 b1_2 b1_3 b4 b3_0 b3_1 b3_2 b3_3 b5 = some t → spec_ShrinkFeature.p5 K x2 x8 x9 x1 b1_0 b1_1 b1_2 b1_3 b2_0 b2_1 b2_2 b2_3 b3_0 b3_1 b3_2 b3_3 b4 b5 = some (spec_ShrinkFeature.toH t)) := by
  induction n using Nat.strongRecOn with
  | _ n ih =>
  refine ⟨fun K hK x2 x1 b1_0 b1_1 b1_2 b1_3 b2_0 b2_1 b2_2 b2_3 b3_0 b3_1 b3_2 b3_3 b4 b5 t h => ?_, fun K hK x2 x8 x9 x1 b1_0 b1_1 b1_2 b1_3 b2_0 b2_1 b2_2 b2_3 b3_0 b3_1 b3_2 b3_3 b4 b5 t h => ?_⟩
  all_goals (rcases n with _ | k)
  all_goals (try (exact nos h))
  all_goals (obtain ⟨K, rfl⟩ : ∃ q, K = q + 1 := ⟨K - 1, by omega⟩)
  all_goals (first | rw [spec_ShrinkFeature.e2] | rw [spec_ShrinkFeature.e5])
  all_goals (simp only [spec_ShrinkFeature.l0, spec_ShrinkFeature.l1] at h)
  repeat' (with_reducible first
   | exact nos h
   | (cases some_inj h; exact spec_ShrinkFeature.rt _ _ _ _ _)
   | exact (ih _ (by omega)).1 _ (by omega) _ _ _ _ _ _ _ _ _ _ _ _ _ _ _ _ _ h
   | exact (ih _ (by omega)).2 _ (by omega) _ _ _ _ _ _ _ _ _ _ _ _ _ _ _ _ _ _ _ h
   | (simp only [Option.bind_some] at h)
   | (refine ite_by h ?_ ?_ <;> (intro hc h; (try simp only [nrm] at hc)))
   | refine itT ?_
   | refine itF ?_
   | (refine bind_by h (fun t ht h => ?_); (first | refine (spec_l9Feature.ap_of (spec_l9Feature.go ht _)).trans ?_ | refine (spec_IsFeature.ap_of (spec_IsFeature.go ht _ (by omega))).trans ?_ | refine (spec_SizeAt.ap_of (spec_SizeAt.go ht _ (by omega))).trans ?_ | refine (spec_CanShrink.ap_of (spec_CanShrink.go ht _ (by omega))).trans ?_ | refine (spec_DropFrom.ap_of (spec_DropFrom.go ht _ (by omega))).trans ?_); (try dsimp only at h ⊢))
   | (simp only [nr2] at h ⊢)
   | (exfalso; omega))
theorem spec_ShrinkFeature.go {k : Nat} {a0_0 : Int} {a0_1 : Int} {a0_2 : Int} {a0_3 : ByteArray} {l0_4 : List S77} {l1 : List S28} {a2 : Int} {t} (h : spec_ShrinkFeature.f k a0_0 a0_1 a0_2 a0_3 l0_4 l1 a2 = some t) (K : Nat) (hK : k ≤ K) : spec_ShrinkFeature.run K ((⟨a0_0, a0_1, a0_2, a0_3, l0_4⟩ : S28), l1, a2, ()) = some (spec_ShrinkFeature.toH t) := by
  rw [spec_ShrinkFeature.ef]
  (try dsimp only)
  unfold spec_ShrinkFeature.f at h
  repeat' (with_reducible first
   | exact nos h
   | (cases some_inj h; exact spec_ShrinkFeature.rt _ _ _ _ _)
   | exact (spec_ShrinkFeature.br _).1 _ (by omega) _ _ _ _ _ _ _ _ _ _ _ _ _ _ _ _ _ h
   | exact (spec_ShrinkFeature.br _).2 _ (by omega) _ _ _ _ _ _ _ _ _ _ _ _ _ _ _ _ _ _ _ h
   | (simp only [Option.bind_some] at h)
   | (refine ite_by h ?_ ?_ <;> (intro hc h; (try simp only [nrm] at hc)))
   | refine itT ?_
   | refine itF ?_
   | (refine bind_by h (fun t ht h => ?_); (first | refine (spec_l9Feature.ap_of (spec_l9Feature.go ht _)).trans ?_ | refine (spec_IsFeature.ap_of (spec_IsFeature.go ht _ (by omega))).trans ?_ | refine (spec_SizeAt.ap_of (spec_SizeAt.go ht _ (by omega))).trans ?_ | refine (spec_CanShrink.ap_of (spec_CanShrink.go ht _ (by omega))).trans ?_ | refine (spec_DropFrom.ap_of (spec_DropFrom.go ht _ (by omega))).trans ?_); (try dsimp only at h ⊢))
   | (simp only [nr2] at h ⊢)
   | (exfalso; omega))
theorem spec_ShrinkFeature.calls (k : Nat) (a0_0 : Int) (a0_1 : Int) (a0_2 : Int) (a0_3 : ByteArray) (A0_4 : Option Addr) (c0_4 : Nat) (l0_4 : List (S77)) (A1 : Option Addr) (c1 : Nat) (l1 : List (S28)) (a2 : Int) (r1 : Int) (r2 : Int) (r3 : Int) (r4 : ByteArray) (r5 : List (S77)) (w : World) (hr0_4 : Kd.C k77 w A0_4 l0_4.length l0_4) (hc0_4 : l0_4.length ≤ c0_4) (hr1 : Kd.C k28 w A1 l1.length l1) (hc1 : l1.length ≤ c1) (h : spec_ShrinkFeature.f k a0_0 a0_1 a0_2 a0_3 l0_4 l1 a2 = some (r1, r2, r3, r4, r5)) :
  Calls Try.prog 20 #[.agg #[.int .i64 a0_0, .int .i64 a0_1, .int .i64 a0_2, .string a0_3, .slice A0_4 l0_4.length c0_4], .slice A1 l1.length c1, .int .i64 a2] w fun e w' => ∃ v4_ : Value, e = .returned (.agg #[.int .i64 r1, .int .i64 r2, .int .i64 r3, .string r4, v4_]) ∧ Kd.R k77 77 w' w.heap.size (fun _ => True) v4_ r5 ∧ Below w.heap.size w w' := by
  refine (spec_ShrinkFeature.snd.calls _ _ _ (spec_ShrinkFeature.go h k (Nat.le_refl k)) w [.agg #[.int .i64 a0_0, .int .i64 a0_1, .int .i64 a0_2, .string a0_3, .slice A0_4 l0_4.length c0_4], .slice A1 l1.length c1, .int .i64 a2] ⟨⟨_, rfl, (H28.K _ _ _).2 ⟨rfl, rfl, rfl, rfl, ⟨_, _, rfl, hc0_4, hr0_4⟩, trivial⟩⟩, ⟨_, _, rfl, hc1, hr1⟩, rfl, trivial⟩).mono ?_
  rintro e w' ⟨v, rfl, hB, vs, oks, rfl, hR, _⟩
  obtain ⟨x0_, vs, o0_, oks, rfl, rfl, m0_, hR⟩ := rmsC hR
  obtain rfl := rmsN hR
  obtain ⟨y0, rfl, m0_⟩ := m0_
  have m0_ := (H28.M _ _ _ _ _).1 m0_
  match e0 : y0.toList, m0_ with
  | [d0_0, d0_1, d0_2, d0_3, d0_4], ⟨n0_0, n0_1, n0_2, n0_3, n0_4, _⟩ =>
  obtain rfl : y0 = #[d0_0, d0_1, d0_2, d0_3, d0_4] := by rw [← Array.toArray_toList (xs := y0), e0]
  obtain rfl := List.singleton_inj.1 (show [d0_0] = [Value.int .i64 r1] from n0_0)
  obtain rfl := List.singleton_inj.1 (show [d0_1] = [Value.int .i64 r2] from n0_1)
  obtain rfl := List.singleton_inj.1 (show [d0_2] = [Value.int .i64 r3] from n0_2)
  obtain rfl := List.singleton_inj.1 (show [d0_3] = [Value.string r4] from n0_3)
  obtain ⟨d0_4v, d0_4e, d0_4R⟩ := n0_4
  obtain rfl := List.singleton_inj.1 d0_4e
  exact ⟨_, rfl, Kd.R_mono d0_4R (fun _ _ => trivial), hB⟩
def impl_Point.toH (t : List S77) : HL eΓ [.l 77 (.st .s77)] := (t, ())
def impl_Point.run (k : Nat) (h : HL eΓ [.l 77 (.st .s77)]) : Option (HL eΓ [.l 77 (.st .s77)]) := (impl_Point.f (h.1 : List S77)).map impl_Point.toH
def impl_Point.spec : Spc env := ⟨74, [.l 77 (.st .s77)], [.l 77 (.st .s77)], impl_Point.run⟩
def impl_Point.ap {R : Type} (k : Nat) (h0 : List S77) (K : (List S77) → Option R) : Option R := (impl_Point.run k (h0, ())).bind fun r => K (r.1 : List S77)
theorem impl_Point.ap_of {R : Type} {k : Nat} {h0 : List S77} {r0 : List S77} {K : (List S77) → Option R} (h : impl_Point.run k (h0, ()) = some (r0, ())) : impl_Point.ap k h0 K = K r0 := by unfold impl_Point.ap; rw [h]; rfl
theorem impl_Point.go {l0 : List S77} {t} (h : impl_Point.f l0 = some t) (K : Nat) : impl_Point.run K (l0, ()) = some (impl_Point.toH t) := by
  show Option.map _ (impl_Point.f l0) = _
  rw [h]; rfl
theorem impl_Point.snd : Snd env impl_Point.spec := ⟨⟨Try.f74, by kernel_rfl, by kernel_rfl, by kernel_rfl⟩, fun k h r he w us hA => by
  obtain ⟨t, ht, rfl⟩ := Option.map_eq_some_iff.1 (show (impl_Point.f (h.1 : List S77)).map impl_Point.toH = some r from he)
  match us, hA with
  | [u0], ⟨q0, _⟩ =>
  obtain ⟨A0, c0, e0, l0, g0⟩ := q0
  obtain rfl := List.singleton_inj.1 e0
  refine (impl_Point.calls (w := w) (h := ht) (hr0 := g0) (hc0 := l0)).mono ?_
  rintro e w' ⟨v0_, he, hR, hw⟩
  exact ⟨_, he, hw, [v0_], [fun _ => True], rfl, ⟨⟨v0_, rfl, hR⟩, trivial⟩, by simp [DJ]⟩⟩
def impl_cloneFeature.Fs : List (Spc env) := [impl_Point.spec]
def impl_cloneFeature.cut : Nat → Option (List (Lv SC)) := lk []
def impl_cloneFeature.ret (r0 : S28) : Option (HL eΓ [.st .s28]) := some (r0, ())
def impl_cloneFeature.run (k : Nat) (h : HL eΓ [.st .s28]) : Option (HL eΓ [.st .s28]) := evF env impl_cloneFeature.Fs Try.f42 impl_cloneFeature.cut [.st .s28] [.st .s28] k h
theorem impl_cloneFeature.ef (k : Nat) (h0 : S28) : impl_cloneFeature.run k (h0, ()) = impl_Point.ap k h0.f4 fun r1 => impl_cloneFeature.ret (⟨h0.f0, h0.f1, h0.f2, h0.f3, r1⟩ : S28) := by kernel_rfl
def impl_cloneFeature.toH (t : Int × Int × Int × ByteArray × (List (S77))) : HL eΓ [.st .s28] := ((⟨t.1, t.2.1, t.2.2.1, t.2.2.2.1, t.2.2.2.2⟩ : S28), ())
def impl_cloneFeature.spec : Spc env := ⟨42, [.st .s28], [.st .s28], impl_cloneFeature.run⟩
def impl_cloneFeature.ap {R : Type} (k : Nat) (h0 : S28) (K : S28 → Option R) : Option R := (impl_cloneFeature.run k (h0, ())).bind fun r => K (r.1 : S28)
theorem impl_cloneFeature.ap_of {R : Type} {k : Nat} {h0 : S28} {r0 : S28} {K : S28 → Option R} (h : impl_cloneFeature.run k (h0, ()) = some (r0, ())) : impl_cloneFeature.ap k h0 K = K r0 := by unfold impl_cloneFeature.ap; rw [h]; rfl
theorem impl_cloneFeature.snd : Snd env impl_cloneFeature.spec := evF_snd env_ok (sndC impl_Point.snd (sndN))
attribute [local irreducible] impl_cloneFeature.run
theorem impl_cloneFeature.rt (a0 : Int) (a1 : Int) (a2 : Int) (a3 : ByteArray) (a4 : List S77) : impl_cloneFeature.ret (⟨a0, a1, a2, a3, a4⟩ : S28) = some (impl_cloneFeature.toH (a0, a1, a2, a3, a4)) := rfl
theorem impl_cloneFeature.go {a0_0 : Int} {a0_1 : Int} {a0_2 : Int} {a0_3 : ByteArray} {l0_4 : List S77} {t} (h : impl_cloneFeature.f a0_0 a0_1 a0_2 a0_3 l0_4 = some t) (K : Nat) : impl_cloneFeature.run K ((⟨a0_0, a0_1, a0_2, a0_3, l0_4⟩ : S28), ()) = some (impl_cloneFeature.toH t) := by
  rw [impl_cloneFeature.ef]
  (try dsimp only)
  unfold impl_cloneFeature.f at h
  repeat' (with_reducible first
   | exact nos h
   | (cases some_inj h; exact impl_cloneFeature.rt _ _ _ _ _)
   | (simp only [Option.bind_some] at h)
   | (refine ite_by h ?_ ?_ <;> (intro hc h; (try simp only [nrm] at hc)))
   | refine itT ?_
   | refine itF ?_
   | (refine bind_by h (fun t ht h => ?_); refine (impl_Point.ap_of (impl_Point.go ht _)).trans ?_; (try dsimp only at h ⊢))
   | (simp only [nr2] at h ⊢)
   | (exfalso; omega))
def impl_InRange.toH (t : Bool) : HL eΓ [.b] := (t, ())
def impl_InRange.run (k : Nat) (h : HL eΓ [.i .i64, .i .i64, .i .i64]) : Option (HL eΓ [.b]) := (impl_InRange.f (h.1 : Int) (h.2.1 : Int) (h.2.2.1 : Int)).map impl_InRange.toH
def impl_InRange.spec : Spc env := ⟨76, [.i .i64, .i .i64, .i .i64], [.b], impl_InRange.run⟩
def impl_InRange.ap {R : Type} (k : Nat) (h0 : Int) (h1 : Int) (h2 : Int) (K : Bool → Option R) : Option R := (impl_InRange.run k (h0, h1, h2, ())).bind fun r => K (r.1 : Bool)
theorem impl_InRange.ap_of {R : Type} {k : Nat} {h0 : Int} {h1 : Int} {h2 : Int} {r0 : Bool} {K : Bool → Option R} (h : impl_InRange.run k (h0, h1, h2, ()) = some (r0, ())) : impl_InRange.ap k h0 h1 h2 K = K r0 := by unfold impl_InRange.ap; rw [h]; rfl
theorem impl_InRange.go {a0 : Int} {a1 : Int} {a2 : Int} {t} (h : impl_InRange.f a0 a1 a2 = some t) (K : Nat) : impl_InRange.run K (a0, a1, a2, ()) = some (impl_InRange.toH t) := by
  show Option.map _ (impl_InRange.f a0 a1 a2) = _
  rw [h]; rfl
theorem impl_InRange.snd : Snd env impl_InRange.spec := ⟨⟨Try.f76, by kernel_rfl, by kernel_rfl, by kernel_rfl⟩, fun k h r he w us hA => by
  obtain ⟨t, ht, rfl⟩ := Option.map_eq_some_iff.1 (show (impl_InRange.f (h.1 : Int) (h.2.1 : Int) (h.2.2.1 : Int)).map impl_InRange.toH = some r from he)
  match us, hA with
  | [u0, u1, u2], ⟨q0, q1, q2, _⟩ =>
  obtain rfl := List.singleton_inj.1 (show [u0] = [Value.int .i64 (h.1 : Int)] from q0)
  obtain rfl := List.singleton_inj.1 (show [u1] = [Value.int .i64 (h.2.1 : Int)] from q1)
  obtain rfl := List.singleton_inj.1 (show [u2] = [Value.int .i64 (h.2.2.1 : Int)] from q2)
  refine (impl_InRange.calls (w := w) (h := ht) ).mono ?_
  rintro e w' ⟨he, hw⟩
  exact ⟨_, he, (by obtain ⟨_, rfl⟩ := hw; exact Below.refl _ _), [.bool t], [fun _ => False], rfl, ⟨rfl, trivial⟩, by simp [DJ]⟩⟩
def impl_IsPoint.toH (t : Bool) : HL eΓ [.b] := (t, ())
def impl_IsPoint.run (k : Nat) (h : HL eΓ [.st .s77]) : Option (HL eΓ [.b]) := (impl_IsPoint.f ((h.1 : S77).f0) ((h.1 : S77).f1)).map impl_IsPoint.toH
def impl_IsPoint.spec : Spc env := ⟨82, [.st .s77], [.b], impl_IsPoint.run⟩
def impl_IsPoint.ap {R : Type} (k : Nat) (h0 : S77) (K : Bool → Option R) : Option R := (impl_IsPoint.run k (h0, ())).bind fun r => K (r.1 : Bool)
theorem impl_IsPoint.ap_of {R : Type} {k : Nat} {h0 : S77} {r0 : Bool} {K : Bool → Option R} (h : impl_IsPoint.run k (h0, ()) = some (r0, ())) : impl_IsPoint.ap k h0 K = K r0 := by unfold impl_IsPoint.ap; rw [h]; rfl
theorem impl_IsPoint.go {a0_0 : Int} {a0_1 : Int} {t} (h : impl_IsPoint.f a0_0 a0_1 = some t) (K : Nat) : impl_IsPoint.run K ((⟨a0_0, a0_1⟩ : S77), ()) = some (impl_IsPoint.toH t) := by
  show Option.map _ (impl_IsPoint.f a0_0 a0_1) = _
  rw [h]; rfl
theorem impl_IsPoint.snd : Snd env impl_IsPoint.spec := ⟨⟨Try.f82, by kernel_rfl, by kernel_rfl, by kernel_rfl⟩, fun k h r he w us hA => by
  obtain ⟨t, ht, rfl⟩ := Option.map_eq_some_iff.1 (show (impl_IsPoint.f ((h.1 : S77).f0) ((h.1 : S77).f1)).map impl_IsPoint.toH = some r from he)
  match us, hA with
  | [u0], ⟨q0, _⟩ =>
  obtain ⟨v0, rfl, q0⟩ := q0
  have q0 := (H77.K _ _ _).1 q0
  match e0 : v0.toList, q0 with
  | [c0_0, c0_1], ⟨p0_0, p0_1, _⟩ =>
  obtain rfl : v0 = #[c0_0, c0_1] := by rw [← Array.toArray_toList (xs := v0), e0]
  obtain rfl := List.singleton_inj.1 (show [c0_0] = [Value.int .i64 ((h.1 : S77).f0)] from p0_0)
  obtain rfl := List.singleton_inj.1 (show [c0_1] = [Value.int .i64 ((h.1 : S77).f1)] from p0_1)
  refine (impl_IsPoint.calls (w := w) (h := ht) ).mono ?_
  rintro e w' ⟨he, hw⟩
  exact ⟨_, he, hw, [.bool t], [fun _ => False], rfl, ⟨rfl, trivial⟩, by simp [DJ]⟩⟩
def impl_IsLine.Fs : List (Spc env) := [impl_IsPoint.spec]
def impl_IsLine.fin : St eΓ → Option (HL eΓ [.b]) := finR env Try.f75.results.toList [.b]
def impl_IsLine.cut : Nat → Option (List (Lv SC)) := lk [(4, [⟨0, none, false⟩, ⟨13, none, false⟩, ⟨14, none, false⟩, ⟨15, none, false⟩])]
def impl_IsLine.ret (r0 : Bool) : Option (HL eΓ [.b]) := some (r0, ())
def impl_IsLine.p4 (k : Nat) (x14 : Int) (x15 : Int) (x0 : List S77) : Option (HL eΓ [.b]) := evM env impl_IsLine.Fs Try.f75.ntmps impl_IsLine.fin impl_IsLine.cut k [.code (sub_ [1, 1, 0, 1, 0, 0, 0] (bodyOf Try.f75)), .code (sub_ [1, 1, 0, 1, 0, 0, 1] (bodyOf Try.f75)), .lp (sub_ [1, 1, 0, 1, 0, 0] (bodyOf Try.f75)), .blk 0, .code (sub_ [1, 1, 1] (bodyOf Try.f75))] (mkSt [(0, .c (.sl 0)), (13, .c (.sl 0)), (14, .c (.v (.int .i64 x14))), (15, .c (.v (.int .i64 x15)))] [.row .ro 77 (.st .s77) x0])
theorem impl_IsLine.e4 (k : Nat) (x14 : Int) (x15 : Int) (x0 : List S77) : impl_IsLine.p4 (k + 1) x14 x15 x0 = if x15 < x14 then (if 0 ≤ x15 then (if x15 < (x0.length : Int) then (impl_IsPoint.ap k (⟨(rd_T77 x0 x15).f0, (rd_T77 x0 x15).f1⟩ : S77) fun r1 => if (!r1) = true then (impl_IsLine.ret false) else (if x15 > 0 then (if 0 ≤ (wrap64 (x15 - 1)) then (if (wrap64 (x15 - 1)) < (x0.length : Int) then (if ((rd_T77 x0 x15).f0) = ((rd_T77 x0 (wrap64 (x15 - 1))).f0) ∧ (((rd_T77 x0 x15).f1) = ((rd_T77 x0 (wrap64 (x15 - 1))).f1) ∧ True) then (impl_IsLine.ret false) else (impl_IsLine.p4 k x14 (wrap64 (x15 + 1)) x0)) else none) else none) else (impl_IsLine.p4 k x14 (wrap64 (x15 + 1)) x0))) else none) else none) else (impl_IsLine.ret true) := by kernel_rfl
def impl_IsLine.run (k : Nat) (h : HL eΓ [.l 77 (.st .s77)]) : Option (HL eΓ [.b]) := evF env impl_IsLine.Fs Try.f75 impl_IsLine.cut [.l 77 (.st .s77)] [.b] k h
theorem impl_IsLine.ef (k : Nat) (h0 : List S77) : impl_IsLine.run k (h0, ()) = if (h0.length : Int) < 2 then (impl_IsLine.ret false) else (if (h0.length : Int) > 10 then (impl_IsLine.ret false) else (impl_IsLine.p4 k (h0.length : Int) 0 h0)) := by kernel_rfl
def impl_IsLine.toH (t : Bool) : HL eΓ [.b] := (t, ())
def impl_IsLine.spec : Spc env := ⟨75, [.l 77 (.st .s77)], [.b], impl_IsLine.run⟩
def impl_IsLine.ap {R : Type} (k : Nat) (h0 : List S77) (K : Bool → Option R) : Option R := (impl_IsLine.run k (h0, ())).bind fun r => K (r.1 : Bool)
theorem impl_IsLine.ap_of {R : Type} {k : Nat} {h0 : List S77} {r0 : Bool} {K : Bool → Option R} (h : impl_IsLine.run k (h0, ()) = some (r0, ())) : impl_IsLine.ap k h0 K = K r0 := by unfold impl_IsLine.ap; rw [h]; rfl
theorem impl_IsLine.snd : Snd env impl_IsLine.spec := evF_snd env_ok (sndC impl_IsPoint.snd (sndN))
attribute [local irreducible] impl_IsLine.run
theorem impl_IsLine.rt (a0 : Bool) : impl_IsLine.ret a0 = some (impl_IsLine.toH (a0)) := rfl
theorem impl_IsLine.br (n : Nat) : (∀ K, n ≤ K → ∀ (x14 : Int) (x15 : Int) (x0 : List S77) t, impl_IsLine.l0 n x0 x0 x14 x15 = some t → impl_IsLine.p4 K x14 x15 x0 = some (impl_IsLine.toH t)) := by
  induction n using Nat.strongRecOn with
  | _ n ih =>
  intro K hK x14 x15 x0 t h
  all_goals (rcases n with _ | k)
  all_goals (try (exact nos h))
  all_goals (obtain ⟨K, rfl⟩ : ∃ q, K = q + 1 := ⟨K - 1, by omega⟩)
  all_goals (first | rw [impl_IsLine.e4])
  all_goals (simp only [impl_IsLine.l0] at h)
  repeat' (with_reducible first
   | exact nos h
   | (cases some_inj h; exact impl_IsLine.rt _)
   | exact (ih _ (by omega)) _ (by omega) _ _ _ _ h
   | ((have q : impl_IsLine.j0 k _ _ = some _ := h; clear q); rcases k with _ | k <;> simp only [impl_IsLine.j0, reduceCtorEq] at h)
   | (simp only [Option.bind_some] at h)
   | (refine ite_by h ?_ ?_ <;> (intro hc h; (try simp only [nrm] at hc)))
   | refine itT ?_
   | refine itF ?_
   | (refine bind_by h (fun t ht h => ?_); refine (impl_IsPoint.ap_of (impl_IsPoint.go ht _)).trans ?_; (try dsimp only at h ⊢))
   | (simp only [nr2] at h ⊢)
   | (exfalso; omega))
theorem impl_IsLine.go {k : Nat} {l0 : List S77} {t} (h : impl_IsLine.f k l0 = some t) (K : Nat) (hK : k ≤ K) : impl_IsLine.run K (l0, ()) = some (impl_IsLine.toH t) := by
  rw [impl_IsLine.ef]
  (try dsimp only)
  unfold impl_IsLine.f at h
  repeat' (with_reducible first
   | exact nos h
   | (cases some_inj h; exact impl_IsLine.rt _)
   | exact (impl_IsLine.br _) _ (by omega) _ _ _ _ h
   | ((have q : impl_IsLine.j0 k _ _ = some _ := h; clear q); rcases k with _ | k <;> simp only [impl_IsLine.j0, reduceCtorEq] at h)
   | (simp only [Option.bind_some] at h)
   | (refine ite_by h ?_ ?_ <;> (intro hc h; (try simp only [nrm] at hc)))
   | refine itT ?_
   | refine itF ?_
   | (refine bind_by h (fun t ht h => ?_); refine (impl_IsPoint.ap_of (impl_IsPoint.go ht _)).trans ?_; (try dsimp only at h ⊢))
   | (simp only [nr2] at h ⊢)
   | (exfalso; omega))
set_option maxHeartbeats 4000000 in
set_option maxRecDepth 100000 in
theorem impl_without.calls (A0 : Option Addr) (c0 : Nat) (l0 : List S77) (a1 : Int) (r : List S77) (w : World) (hr0 : Kd.C k77 w A0 l0.length l0) (hc0 : l0.length ≤ c0) (h : impl_without.f l0 a1 = some r) :
    Calls Try.prog 77 #[.slice A0 l0.length c0, .int .i64 a1] w fun e w' => ∃ v0_ : Value, e = .returned (v0_) ∧ Kd.R k77 77 w' w.heap.size (fun _ => True) v0_ r ∧ Below w.heap.size w w' := by
  unfold impl_without.f at h
  by_cases h0 : 0 ≤ a1
  case neg => rw [if_neg h0] at h; cases h
  rw [if_pos h0] at h
  by_cases h1 : a1 < (l0.length : Int)
  case neg => rw [if_neg h1] at h; cases h
  rw [if_pos h1] at h
  by_cases h2 : l0.length < 8796093022208
  case neg => rw [if_neg h2] at h; cases h
  rw [if_pos h2] at h; obtain rfl := Option.some.inj h; clear h; obtain ⟨i0, hi0, _, hsz0, _⟩ := info_parts info77; have cutA := cut_to (P := Try.prog) 26 77 .i64 Try.underlying26 hi0 A0 l0.length c0 a1 h0 (by omega) hc0; have ew : wrap64 (a1 + 1) = a1 + 1 := by unfold wrap64; omega
  have cutB := cut_from (P := Try.prog) 26 77 .i64 Try.underlying26 hi0 2 hsz0 A0 l0.length c0 (wrap64 (a1 + 1)) (by omega) (by omega); have hA := Kd.C_take (m := a1.toNat) hr0 (by omega); have hB := Kd.C_drop (m := (wrap64 (a1 + 1)).toNat) (c := c0) hr0 (by omega) hc0; rw [show (l0.drop (a1.toNat + 1)) = l0.drop (wrap64 (a1 + 1)).toNat by rw [ew]; congr 1; omega]; obtain ⟨xs, hxs⟩ : ∃ xs, xs = l0.take a1.toNat := ⟨_, rfl⟩
  obtain ⟨ys, hys⟩ : ∃ ys, ys = l0.drop (wrap64 (a1 + 1)).toNat := ⟨_, rfl⟩
  have lx : xs.length = a1.toNat := by rw [hxs, List.length_take]; omega
  have ly : ys.length = l0.length - (wrap64 (a1 + 1)).toNat := by rw [hys, List.length_drop]
  rw [← hxs] at hA; rw [← hys] at hB; rw [← lx] at cutA; rw [← ly] at cutB; rw [← hxs, ← hys]; have hl : xs.length + ys.length < 8796093022208 := by omega
  obtain ⟨B0, hB0⟩ : ∃ B0, B0 = (if c0 = (wrap64 (a1 + 1)).toNat then A0 else A0.map (·.add ((wrap64 (a1 + 1)).toNat * 2))) := ⟨_, rfl⟩
  obtain ⟨cb, hcb⟩ : ∃ cb, cb = c0 - (wrap64 (a1 + 1)).toNat := ⟨_, rfl⟩
  rw [← hB0, ← hcb] at cutB; replace hB : Kd.C k77 w B0 ys.length ys := by rw [hB0]; exact hB
  have HA := Aside0.mk hA; have HB2 := Aside0.mk hB; have HL := Aside0.mk hl; have hcat := fun (g : Nat) (W : World) (hb : Below w.heap.size w W) => concat_P g A0 B0 c0 cb xs ys W (Kd.C_below HA.out hb) (Kd.C_below HB2.out hb)
  clear hr0 hc0 hA hB hB0 hcb hi0 hsz0 lx ly hxs hys h0 h1 h2 hl

  obtain ⟨z, hz⟩ : ∃ z : Int, wrap64 (a1 + 1) = z := ⟨_, rfl⟩
  rw [hz] at cutB; have hzw : (IntKind.i64.wrap (a1 + 1)) = z := (i64_w _).trans hz; clear ew; have HW := Aside0.mk (below_drew1 (Below.refl w.heap.size w))
  go_enter Try.func77, Try.ntmps77; go_wp2; refine start_ (n := 10) (S := fun w' => True) (ds := []) #[F,F,F,F,F,F,F,F,F,F] (by kernel_rfl) rfl rfl trivial (fun hHeld => ?_); refine with_tabW impl_without.tab1 impl_without.bits1 (fun HT_ HW_ => ?_); generalize w.drew = w23 at HW hHeld ⊢; refine pz HT_ 0 5 ?_; refine pz HT_ 1 6 ?_; refine pz HT_ 2 7 ?_; refine pz HT_ 3 8 ?_; refine pz HT_ 4 9 ?_; refine pz HT_ 5 10 ?_; refine pz HT_ 6 11 ?_; refine oz HT_ 7 (some 12) (fun K hK => ?_); refine event_step (v := .slice (some ⟨w23.heap.size, 0, none⟩) 2 2) (w1 := w23.alloc (.cells #[.slice A0 xs.length c0, .slice B0 ys.length cb] 26 (0, 0))) (by rfl) (by go_simp) ?_; refine hK.out _ _ trivial (fun hHeld => ?_); clear hK K; refine nz 12 ?_; refine oz HT_ 8 (some 13) (fun K hK => ?_); have hnew := blk_new w23 (.cells #[.slice A0 xs.length c0, .slice B0 ys.length cb] 26 (0, 0)); have g0 := blk_cell hnew 0; have g1 := blk_cell hnew 1; have hb9 := below_alloc HW.out (.cells #[.slice A0 xs.length c0, .slice B0 ys.length cb] 26 (0, 0)); refine goes_ (f := 104) Try.func104 (by kernel_rfl) rfl #[.slice (some ⟨w23.heap.size, 0, none⟩) 2 2] (by rfl) rfl rfl (by (try simp only [List.map_toArray, List.map_cons, List.map_nil]); first | done | rfl) ?_; refine (hcat w23.heap.size _ hb9 g0 g1 HL.out).mono ?_; rintro e w24 ⟨v24, rfl, ho, hb⟩; refine ⟨_, rfl, ?_⟩; have HO := Aside0.mk (Kd.R_lower ho hb9.size); have HX := Aside0.mk (below_then hb9 hb9.size hb); clear hnew g0 g1 hb9 ho hb HW; refine hK.out _ _ trivial (fun hHeld => ?_)
  clear hK K; refine nz 13 ?_; refine pz HT_ 9 4 ?_; refine dz HT_ ?_; go_wp2; go_ret
  exact ⟨_, rfl, HO.out, HX.out⟩
def impl_without.toH (t : List S77) : HL eΓ [.l 77 (.st .s77)] := (t, ())
def impl_without.run (k : Nat) (h : HL eΓ [.l 77 (.st .s77), .i .i64]) : Option (HL eΓ [.l 77 (.st .s77)]) := (impl_without.f (h.1 : List S77) (h.2.1 : Int)).map impl_without.toH
def impl_without.spec : Spc env := ⟨77, [.l 77 (.st .s77), .i .i64], [.l 77 (.st .s77)], impl_without.run⟩
def impl_without.ap {R : Type} (k : Nat) (h0 : List S77) (h1 : Int) (K : (List S77) → Option R) : Option R := (impl_without.run k (h0, h1, ())).bind fun r => K (r.1 : List S77)
theorem impl_without.ap_of {R : Type} {k : Nat} {h0 : List S77} {h1 : Int} {r0 : List S77} {K : (List S77) → Option R} (h : impl_without.run k (h0, h1, ()) = some (r0, ())) : impl_without.ap k h0 h1 K = K r0 := by unfold impl_without.ap; rw [h]; rfl
theorem impl_without.go {l0 : List S77} {a1 : Int} {t} (h : impl_without.f l0 a1 = some t) (K : Nat) : impl_without.run K (l0, a1, ()) = some (impl_without.toH t) := by
  show Option.map _ (impl_without.f l0 a1) = _
  rw [h]; rfl
theorem impl_without.snd : Snd env impl_without.spec := ⟨⟨Try.f77, by kernel_rfl, by kernel_rfl, by kernel_rfl⟩, fun k h r he w us hA => by
  obtain ⟨t, ht, rfl⟩ := Option.map_eq_some_iff.1 (show (impl_without.f (h.1 : List S77) (h.2.1 : Int)).map impl_without.toH = some r from he)
  match us, hA with
  | [u0, u1], ⟨q0, q1, _⟩ =>
  obtain ⟨A0, c0, e0, l0, g0⟩ := q0
  obtain rfl := List.singleton_inj.1 e0
  obtain rfl := List.singleton_inj.1 (show [u1] = [Value.int .i64 (h.2.1 : Int)] from q1)
  refine (impl_without.calls (w := w) (h := ht) (hr0 := g0) (hc0 := l0)).mono ?_
  rintro e w' ⟨v0_, he, hR, hw⟩
  exact ⟨_, he, hw, [v0_], [fun _ => True], rfl, ⟨⟨v0_, rfl, hR⟩, trivial⟩, by simp [DJ]⟩⟩
def impl_DropPoint.Fs : List (Spc env) := [impl_IsLine.spec, impl_Point.spec, impl_InRange.spec, impl_without.spec]
def impl_DropPoint.cut : Nat → Option (List (Lv SC)) := lk []
def impl_DropPoint.ret (r0 : List S77) (r1 : Bool) : Option (HL eΓ [.l 77 (.st .s77), .b]) := some (r0, r1, ())
def impl_DropPoint.run (k : Nat) (h : HL eΓ [.l 77 (.st .s77), .i .i64]) : Option (HL eΓ [.l 77 (.st .s77), .b]) := evF env impl_DropPoint.Fs Try.f43 impl_DropPoint.cut [.l 77 (.st .s77), .i .i64] [.l 77 (.st .s77), .b] k h
theorem impl_DropPoint.ef (k : Nat) (h0 : List S77) (h1 : Int) : impl_DropPoint.run k (h0, h1, ()) = impl_IsLine.ap k h0 fun r1 => if (!r1) = true then (impl_Point.ap k h0 fun r2 => impl_DropPoint.ret r2 false) else (impl_InRange.ap k h1 1 (wrap64 ((h0.length : Int) - 2)) fun r3 => if (!r3) = true then (impl_Point.ap k h0 fun r4 => impl_DropPoint.ret r4 false) else (impl_without.ap k h0 h1 fun r5 => impl_IsLine.ap k r5 fun r6 => if (!r6) = true then (impl_Point.ap k h0 fun r7 => impl_DropPoint.ret r7 false) else (impl_DropPoint.ret r5 true))) := by kernel_rfl
def impl_DropPoint.toH (t : (List (S77)) × Bool) : HL eΓ [.l 77 (.st .s77), .b] := (t.1, t.2, ())
def impl_DropPoint.spec : Spc env := ⟨43, [.l 77 (.st .s77), .i .i64], [.l 77 (.st .s77), .b], impl_DropPoint.run⟩
def impl_DropPoint.ap {R : Type} (k : Nat) (h0 : List S77) (h1 : Int) (K : (List S77) → Bool → Option R) : Option R := (impl_DropPoint.run k (h0, h1, ())).bind fun r => K (r.1 : List S77) (r.2.1 : Bool)
theorem impl_DropPoint.ap_of {R : Type} {k : Nat} {h0 : List S77} {h1 : Int} {r0 : List S77} {r1 : Bool} {K : (List S77) → Bool → Option R} (h : impl_DropPoint.run k (h0, h1, ()) = some (r0, r1, ())) : impl_DropPoint.ap k h0 h1 K = K r0 r1 := by unfold impl_DropPoint.ap; rw [h]; rfl
theorem impl_DropPoint.snd : Snd env impl_DropPoint.spec := evF_snd env_ok (sndC impl_IsLine.snd (sndC impl_Point.snd (sndC impl_InRange.snd (sndC impl_without.snd (sndN)))))
attribute [local irreducible] impl_DropPoint.run
theorem impl_DropPoint.rt (a0 : List S77) (a1 : Bool) : impl_DropPoint.ret a0 a1 = some (impl_DropPoint.toH (a0, a1)) := rfl
theorem impl_DropPoint.go {k : Nat} {l0 : List S77} {a1 : Int} {t} (h : impl_DropPoint.f k l0 a1 = some t) (K : Nat) (hK : k ≤ K) : impl_DropPoint.run K (l0, a1, ()) = some (impl_DropPoint.toH t) := by
  rw [impl_DropPoint.ef]
  (try dsimp only)
  unfold impl_DropPoint.f at h
  repeat' (with_reducible first
   | exact nos h
   | (cases some_inj h; exact impl_DropPoint.rt _ _)
   | ((have q : impl_DropPoint.j0 k _ _ _ = some _ := h; clear q); rcases k with _ | k <;> simp only [impl_DropPoint.j0, reduceCtorEq] at h)
   | (simp only [Option.bind_some] at h)
   | (refine ite_by h ?_ ?_ <;> (intro hc h; (try simp only [nrm] at hc)))
   | refine itT ?_
   | refine itF ?_
   | (refine bind_by h (fun t ht h => ?_); (first | refine (impl_IsLine.ap_of (impl_IsLine.go ht _ (by omega))).trans ?_ | refine (impl_Point.ap_of (impl_Point.go ht _)).trans ?_ | refine (impl_InRange.ap_of (impl_InRange.go ht _)).trans ?_ | refine (impl_without.ap_of (impl_without.go ht _)).trans ?_); (try dsimp only at h ⊢))
   | (simp only [nr2] at h ⊢)
   | (exfalso; omega))
def impl_around.Fs : List (Spc env) := []
def impl_around.fin : St eΓ → Option (HL eΓ [.l 95 (.st .s95)]) := finR env Try.f105.results.toList [.l 95 (.st .s95)]
def impl_around.cut : Nat → Option (List (Lv SC)) := lk [(3, [⟨0, none, false⟩, ⟨3, none, false⟩, ⟨7, none, false⟩, ⟨8, none, false⟩, ⟨9, none, false⟩])]
def impl_around.ret (r0 : List S95) : Option (HL eΓ [.l 95 (.st .s95)]) := some (r0, ())
def impl_around.p3 (k : Nat) (x8 : Int) (x9 : Int) (x0 : List S77) (x3 : List S95) : Option (HL eΓ [.l 95 (.st .s95)]) := evM env impl_around.Fs Try.f105.ntmps impl_around.fin impl_around.cut k [.code (sub_ [1, 1, 0, 1, 0, 0, 0] (bodyOf Try.f105)), .code (sub_ [1, 1, 0, 1, 0, 0, 1] (bodyOf Try.f105)), .lp (sub_ [1, 1, 0, 1, 0, 0] (bodyOf Try.f105)), .blk 0, .code (sub_ [1, 1, 1] (bodyOf Try.f105))] (mkSt [(0, .c (.sl 0)), (3, .c (.sl 1)), (7, .c (.sl 0)), (8, .c (.v (.int .i64 x8))), (9, .c (.v (.int .i64 x9)))] [.row .ro 77 (.st .s77) x0, .row .own 95 (.st .s95) x3])
theorem impl_around.e3 (k : Nat) (x8 : Int) (x9 : Int) (x0 : List S77) (x3 : List S95) : impl_around.p3 (k + 1) x8 x9 x0 x3 = if x9 < x8 then (if 0 ≤ x9 then (if x9 < (x0.length : Int) then (if (x0.length : Int) = 0 then none else (if 0 ≤ (Int.tmod (wrap64 (x9 + 1)) (x0.length : Int)) then (if (Int.tmod (wrap64 (x9 + 1)) (x0.length : Int)) < (x0.length : Int) then (if (x3.length + 1) * 32 ≤ 140737488355328 then (impl_around.p3 k x8 (wrap64 (x9 + 1)) x0 (x3 ++ [(⟨(⟨(rd_T77 x0 x9).f0, (rd_T77 x0 x9).f1⟩ : S77), (⟨(rd_T77 x0 (Int.tmod (wrap64 (x9 + 1)) (x0.length : Int))).f0, (rd_T77 x0 (Int.tmod (wrap64 (x9 + 1)) (x0.length : Int))).f1⟩ : S77)⟩ : S95)])) else none) else none) else none)) else none) else none) else (impl_around.ret x3) := by kernel_rfl
def impl_around.run (k : Nat) (h : HL eΓ [.l 77 (.st .s77)]) : Option (HL eΓ [.l 95 (.st .s95)]) := evF env impl_around.Fs Try.f105 impl_around.cut [.l 77 (.st .s77)] [.l 95 (.st .s95)] k h
theorem impl_around.ef (k : Nat) (h0 : List S77) : impl_around.run k (h0, ()) = impl_around.p3 k (h0.length : Int) 0 h0 ([] : List S95) := by kernel_rfl
def impl_around.toH (t : (List (S95))) : HL eΓ [.l 95 (.st .s95)] := (t, ())
def impl_around.spec : Spc env := ⟨105, [.l 77 (.st .s77)], [.l 95 (.st .s95)], impl_around.run⟩
def impl_around.ap {R : Type} (k : Nat) (h0 : List S77) (K : (List S95) → Option R) : Option R := (impl_around.run k (h0, ())).bind fun r => K (r.1 : List S95)
theorem impl_around.ap_of {R : Type} {k : Nat} {h0 : List S77} {r0 : List S95} {K : (List S95) → Option R} (h : impl_around.run k (h0, ()) = some (r0, ())) : impl_around.ap k h0 K = K r0 := by unfold impl_around.ap; rw [h]; rfl
theorem impl_around.snd : Snd env impl_around.spec := evF_snd env_ok (sndN)
attribute [local irreducible] impl_around.run
theorem impl_around.rt (a0 : List S95) : impl_around.ret a0 = some (impl_around.toH (a0)) := rfl
theorem impl_around.br (n : Nat) : (∀ K, n ≤ K → ∀ (x8 : Int) (x9 : Int) (x0 : List S77) (x3 : List S95) t, impl_around.l0 n x0 x3 x0 x8 x9 = some t → impl_around.p3 K x8 x9 x0 x3 = some (impl_around.toH t)) := by
  induction n using Nat.strongRecOn with
  | _ n ih =>
  intro K hK x8 x9 x0 x3 t h
  all_goals (rcases n with _ | k)
  all_goals (try (exact nos h))
  all_goals (obtain ⟨K, rfl⟩ : ∃ q, K = q + 1 := ⟨K - 1, by omega⟩)
  all_goals (first | rw [impl_around.e3])
  all_goals (simp only [impl_around.l0] at h)
  repeat' (with_reducible first
   | exact nos h
   | (cases some_inj h; exact impl_around.rt _)
   | exact (ih _ (by omega)) _ (by omega) _ _ _ _ _ h
   | (simp only [Option.bind_some] at h)
   | (refine ite_by h ?_ ?_ <;> (intro hc h; (try simp only [nrm] at hc)))
   | refine itT ?_
   | refine itF ?_
   | (simp only [nr2] at h ⊢)
   | (exfalso; omega))
theorem impl_around.go {k : Nat} {l0 : List S77} {t} (h : impl_around.f k l0 = some t) (K : Nat) (hK : k ≤ K) : impl_around.run K (l0, ()) = some (impl_around.toH t) := by
  rw [impl_around.ef]
  (try dsimp only)
  unfold impl_around.f at h
  repeat' (with_reducible first
   | exact nos h
   | (cases some_inj h; exact impl_around.rt _)
   | exact (impl_around.br _) _ (by omega) _ _ _ _ _ h
   | (simp only [Option.bind_some] at h)
   | (refine ite_by h ?_ ?_ <;> (intro hc h; (try simp only [nrm] at hc)))
   | refine itT ?_
   | refine itF ?_
   | (simp only [nr2] at h ⊢)
   | (exfalso; omega))
def impl_IsSegment.toH (t : Bool) : HL eΓ [.b] := (t, ())
def impl_IsSegment.run (k : Nat) (h : HL eΓ [.st .s95]) : Option (HL eΓ [.b]) := (impl_IsSegment.f ((h.1 : S95).f0.f0) ((h.1 : S95).f0.f1) ((h.1 : S95).f1.f0) ((h.1 : S95).f1.f1)).map impl_IsSegment.toH
def impl_IsSegment.spec : Spc env := ⟨106, [.st .s95], [.b], impl_IsSegment.run⟩
def impl_IsSegment.ap {R : Type} (k : Nat) (h0 : S95) (K : Bool → Option R) : Option R := (impl_IsSegment.run k (h0, ())).bind fun r => K (r.1 : Bool)
theorem impl_IsSegment.ap_of {R : Type} {k : Nat} {h0 : S95} {r0 : Bool} {K : Bool → Option R} (h : impl_IsSegment.run k (h0, ()) = some (r0, ())) : impl_IsSegment.ap k h0 K = K r0 := by unfold impl_IsSegment.ap; rw [h]; rfl
theorem impl_IsSegment.go {a0_0 : Int} {a0_1 : Int} {a0_2 : Int} {a0_3 : Int} {t} (h : impl_IsSegment.f a0_0 a0_1 a0_2 a0_3 = some t) (K : Nat) : impl_IsSegment.run K ((⟨(⟨a0_0, a0_1⟩ : S77), (⟨a0_2, a0_3⟩ : S77)⟩ : S95), ()) = some (impl_IsSegment.toH t) := by
  show Option.map _ (impl_IsSegment.f a0_0 a0_1 a0_2 a0_3) = _
  rw [h]; rfl
theorem impl_IsSegment.snd : Snd env impl_IsSegment.spec := ⟨⟨Try.f106, by kernel_rfl, by kernel_rfl, by kernel_rfl⟩, fun k h r he w us hA => by
  obtain ⟨t, ht, rfl⟩ := Option.map_eq_some_iff.1 (show (impl_IsSegment.f ((h.1 : S95).f0.f0) ((h.1 : S95).f0.f1) ((h.1 : S95).f1.f0) ((h.1 : S95).f1.f1)).map impl_IsSegment.toH = some r from he)
  match us, hA with
  | [u0], ⟨q0, _⟩ =>
  obtain ⟨v0, rfl, q0⟩ := q0
  have q0 := (H95.K _ _ _).1 q0
  match e0 : v0.toList, q0 with
  | [c0_0, c0_1, c0_2, c0_3], ⟨p0_0, p0_1, p0_2, p0_3, _⟩ =>
  obtain rfl : v0 = #[c0_0, c0_1, c0_2, c0_3] := by rw [← Array.toArray_toList (xs := v0), e0]
  obtain rfl := List.singleton_inj.1 (show [c0_0] = [Value.int .i64 ((h.1 : S95).f0.f0)] from p0_0)
  obtain rfl := List.singleton_inj.1 (show [c0_1] = [Value.int .i64 ((h.1 : S95).f0.f1)] from p0_1)
  obtain rfl := List.singleton_inj.1 (show [c0_2] = [Value.int .i64 ((h.1 : S95).f1.f0)] from p0_2)
  obtain rfl := List.singleton_inj.1 (show [c0_3] = [Value.int .i64 ((h.1 : S95).f1.f1)] from p0_3)
  refine (impl_IsSegment.calls (w := w) (h := ht) ).mono ?_
  rintro e w' ⟨he, hw⟩
  exact ⟨_, he, hw, [.bool t], [fun _ => False], rfl, ⟨rfl, trivial⟩, by simp [DJ]⟩⟩
def cmp_Compare_int.toH (t : Int) : HL eΓ [.i .i64] := (t, ())
def cmp_Compare_int.run (k : Nat) (h : HL eΓ [.i .i64, .i .i64]) : Option (HL eΓ [.i .i64]) := (cmp_Compare_int.f (h.1 : Int) (h.2.1 : Int)).map cmp_Compare_int.toH
def cmp_Compare_int.spec : Spc env := ⟨79, [.i .i64, .i .i64], [.i .i64], cmp_Compare_int.run⟩
def cmp_Compare_int.ap {R : Type} (k : Nat) (h0 : Int) (h1 : Int) (K : Int → Option R) : Option R := (cmp_Compare_int.run k (h0, h1, ())).bind fun r => K (r.1 : Int)
theorem cmp_Compare_int.ap_of {R : Type} {k : Nat} {h0 : Int} {h1 : Int} {r0 : Int} {K : Int → Option R} (h : cmp_Compare_int.run k (h0, h1, ()) = some (r0, ())) : cmp_Compare_int.ap k h0 h1 K = K r0 := by unfold cmp_Compare_int.ap; rw [h]; rfl
theorem cmp_Compare_int.go {a0 : Int} {a1 : Int} {t} (h : cmp_Compare_int.f a0 a1 = some t) (K : Nat) : cmp_Compare_int.run K (a0, a1, ()) = some (cmp_Compare_int.toH t) := by
  show Option.map _ (cmp_Compare_int.f a0 a1) = _
  rw [h]; rfl
theorem cmp_Compare_int.snd : Snd env cmp_Compare_int.spec := ⟨⟨Try.f79, by kernel_rfl, by kernel_rfl, by kernel_rfl⟩, fun k h r he w us hA => by
  obtain ⟨t, ht, rfl⟩ := Option.map_eq_some_iff.1 (show (cmp_Compare_int.f (h.1 : Int) (h.2.1 : Int)).map cmp_Compare_int.toH = some r from he)
  match us, hA with
  | [u0, u1], ⟨q0, q1, _⟩ =>
  obtain rfl := List.singleton_inj.1 (show [u0] = [Value.int .i64 (h.1 : Int)] from q0)
  obtain rfl := List.singleton_inj.1 (show [u1] = [Value.int .i64 (h.2.1 : Int)] from q1)
  refine (cmp_Compare_int.calls (w := w) (h := ht) ).mono ?_
  rintro e w' ⟨he, hw⟩
  exact ⟨_, he, (by obtain ⟨_, rfl⟩ := hw; exact Below.refl _ _), [.int .i64 t], [fun _ => False], rfl, ⟨rfl, trivial⟩, by simp [DJ]⟩⟩
def impl_cross.toH (t : Int) : HL eΓ [.i .i64] := (t, ())
def impl_cross.run (k : Nat) (h : HL eΓ [.st .s77, .st .s77, .st .s77]) : Option (HL eΓ [.i .i64]) := (impl_cross.f ((h.1 : S77).f0) ((h.1 : S77).f1) ((h.2.1 : S77).f0) ((h.2.1 : S77).f1) ((h.2.2.1 : S77).f0) ((h.2.2.1 : S77).f1)).map impl_cross.toH
def impl_cross.spec : Spc env := ⟨121, [.st .s77, .st .s77, .st .s77], [.i .i64], impl_cross.run⟩
def impl_cross.ap {R : Type} (k : Nat) (h0 : S77) (h1 : S77) (h2 : S77) (K : Int → Option R) : Option R := (impl_cross.run k (h0, h1, h2, ())).bind fun r => K (r.1 : Int)
theorem impl_cross.ap_of {R : Type} {k : Nat} {h0 : S77} {h1 : S77} {h2 : S77} {r0 : Int} {K : Int → Option R} (h : impl_cross.run k (h0, h1, h2, ()) = some (r0, ())) : impl_cross.ap k h0 h1 h2 K = K r0 := by unfold impl_cross.ap; rw [h]; rfl
theorem impl_cross.go {a0_0 : Int} {a0_1 : Int} {a1_0 : Int} {a1_1 : Int} {a2_0 : Int} {a2_1 : Int} {t} (h : impl_cross.f a0_0 a0_1 a1_0 a1_1 a2_0 a2_1 = some t) (K : Nat) : impl_cross.run K ((⟨a0_0, a0_1⟩ : S77), (⟨a1_0, a1_1⟩ : S77), (⟨a2_0, a2_1⟩ : S77), ()) = some (impl_cross.toH t) := by
  show Option.map _ (impl_cross.f a0_0 a0_1 a1_0 a1_1 a2_0 a2_1) = _
  rw [h]; rfl
theorem impl_cross.snd : Snd env impl_cross.spec := ⟨⟨Try.f121, by kernel_rfl, by kernel_rfl, by kernel_rfl⟩, fun k h r he w us hA => by
  obtain ⟨t, ht, rfl⟩ := Option.map_eq_some_iff.1 (show (impl_cross.f ((h.1 : S77).f0) ((h.1 : S77).f1) ((h.2.1 : S77).f0) ((h.2.1 : S77).f1) ((h.2.2.1 : S77).f0) ((h.2.2.1 : S77).f1)).map impl_cross.toH = some r from he)
  match us, hA with
  | [u0, u1, u2], ⟨q0, q1, q2, _⟩ =>
  obtain ⟨v0, rfl, q0⟩ := q0
  have q0 := (H77.K _ _ _).1 q0
  match e0 : v0.toList, q0 with
  | [c0_0, c0_1], ⟨p0_0, p0_1, _⟩ =>
  obtain rfl : v0 = #[c0_0, c0_1] := by rw [← Array.toArray_toList (xs := v0), e0]
  obtain rfl := List.singleton_inj.1 (show [c0_0] = [Value.int .i64 ((h.1 : S77).f0)] from p0_0)
  obtain rfl := List.singleton_inj.1 (show [c0_1] = [Value.int .i64 ((h.1 : S77).f1)] from p0_1)
  obtain ⟨v1, rfl, q1⟩ := q1
  have q1 := (H77.K _ _ _).1 q1
  match e1 : v1.toList, q1 with
  | [c1_0, c1_1], ⟨p1_0, p1_1, _⟩ =>
  obtain rfl : v1 = #[c1_0, c1_1] := by rw [← Array.toArray_toList (xs := v1), e1]
  obtain rfl := List.singleton_inj.1 (show [c1_0] = [Value.int .i64 ((h.2.1 : S77).f0)] from p1_0)
  obtain rfl := List.singleton_inj.1 (show [c1_1] = [Value.int .i64 ((h.2.1 : S77).f1)] from p1_1)
  obtain ⟨v2, rfl, q2⟩ := q2
  have q2 := (H77.K _ _ _).1 q2
  match e2 : v2.toList, q2 with
  | [c2_0, c2_1], ⟨p2_0, p2_1, _⟩ =>
  obtain rfl : v2 = #[c2_0, c2_1] := by rw [← Array.toArray_toList (xs := v2), e2]
  obtain rfl := List.singleton_inj.1 (show [c2_0] = [Value.int .i64 ((h.2.2.1 : S77).f0)] from p2_0)
  obtain rfl := List.singleton_inj.1 (show [c2_1] = [Value.int .i64 ((h.2.2.1 : S77).f1)] from p2_1)
  refine (impl_cross.calls (w := w) (h := ht) ).mono ?_
  rintro e w' ⟨he, hw⟩
  exact ⟨_, he, hw, [.int .i64 t], [fun _ => False], rfl, ⟨rfl, trivial⟩, by simp [DJ]⟩⟩
def impl_SideOf.toH (t : Int) : HL eΓ [.i .i64] := (t, ())
def impl_SideOf.run (k : Nat) (h : HL eΓ [.st .s77, .st .s77, .st .s77]) : Option (HL eΓ [.i .i64]) := (impl_SideOf.f ((h.1 : S77).f0) ((h.1 : S77).f1) ((h.2.1 : S77).f0) ((h.2.1 : S77).f1) ((h.2.2.1 : S77).f0) ((h.2.2.1 : S77).f1)).map impl_SideOf.toH
def impl_SideOf.spec : Spc env := ⟨123, [.st .s77, .st .s77, .st .s77], [.i .i64], impl_SideOf.run⟩
def impl_SideOf.ap {R : Type} (k : Nat) (h0 : S77) (h1 : S77) (h2 : S77) (K : Int → Option R) : Option R := (impl_SideOf.run k (h0, h1, h2, ())).bind fun r => K (r.1 : Int)
theorem impl_SideOf.ap_of {R : Type} {k : Nat} {h0 : S77} {h1 : S77} {h2 : S77} {r0 : Int} {K : Int → Option R} (h : impl_SideOf.run k (h0, h1, h2, ()) = some (r0, ())) : impl_SideOf.ap k h0 h1 h2 K = K r0 := by unfold impl_SideOf.ap; rw [h]; rfl
theorem impl_SideOf.go {a0_0 : Int} {a0_1 : Int} {a1_0 : Int} {a1_1 : Int} {a2_0 : Int} {a2_1 : Int} {t} (h : impl_SideOf.f a0_0 a0_1 a1_0 a1_1 a2_0 a2_1 = some t) (K : Nat) : impl_SideOf.run K ((⟨a0_0, a0_1⟩ : S77), (⟨a1_0, a1_1⟩ : S77), (⟨a2_0, a2_1⟩ : S77), ()) = some (impl_SideOf.toH t) := by
  show Option.map _ (impl_SideOf.f a0_0 a0_1 a1_0 a1_1 a2_0 a2_1) = _
  rw [h]; rfl
theorem impl_SideOf.snd : Snd env impl_SideOf.spec := ⟨⟨Try.f123, by kernel_rfl, by kernel_rfl, by kernel_rfl⟩, fun k h r he w us hA => by
  obtain ⟨t, ht, rfl⟩ := Option.map_eq_some_iff.1 (show (impl_SideOf.f ((h.1 : S77).f0) ((h.1 : S77).f1) ((h.2.1 : S77).f0) ((h.2.1 : S77).f1) ((h.2.2.1 : S77).f0) ((h.2.2.1 : S77).f1)).map impl_SideOf.toH = some r from he)
  match us, hA with
  | [u0, u1, u2], ⟨q0, q1, q2, _⟩ =>
  obtain ⟨v0, rfl, q0⟩ := q0
  have q0 := (H77.K _ _ _).1 q0
  match e0 : v0.toList, q0 with
  | [c0_0, c0_1], ⟨p0_0, p0_1, _⟩ =>
  obtain rfl : v0 = #[c0_0, c0_1] := by rw [← Array.toArray_toList (xs := v0), e0]
  obtain rfl := List.singleton_inj.1 (show [c0_0] = [Value.int .i64 ((h.1 : S77).f0)] from p0_0)
  obtain rfl := List.singleton_inj.1 (show [c0_1] = [Value.int .i64 ((h.1 : S77).f1)] from p0_1)
  obtain ⟨v1, rfl, q1⟩ := q1
  have q1 := (H77.K _ _ _).1 q1
  match e1 : v1.toList, q1 with
  | [c1_0, c1_1], ⟨p1_0, p1_1, _⟩ =>
  obtain rfl : v1 = #[c1_0, c1_1] := by rw [← Array.toArray_toList (xs := v1), e1]
  obtain rfl := List.singleton_inj.1 (show [c1_0] = [Value.int .i64 ((h.2.1 : S77).f0)] from p1_0)
  obtain rfl := List.singleton_inj.1 (show [c1_1] = [Value.int .i64 ((h.2.1 : S77).f1)] from p1_1)
  obtain ⟨v2, rfl, q2⟩ := q2
  have q2 := (H77.K _ _ _).1 q2
  match e2 : v2.toList, q2 with
  | [c2_0, c2_1], ⟨p2_0, p2_1, _⟩ =>
  obtain rfl : v2 = #[c2_0, c2_1] := by rw [← Array.toArray_toList (xs := v2), e2]
  obtain rfl := List.singleton_inj.1 (show [c2_0] = [Value.int .i64 ((h.2.2.1 : S77).f0)] from p2_0)
  obtain rfl := List.singleton_inj.1 (show [c2_1] = [Value.int .i64 ((h.2.2.1 : S77).f1)] from p2_1)
  refine (impl_SideOf.calls (w := w) (h := ht) ).mono ?_
  rintro e w' ⟨he, hw⟩
  exact ⟨_, he, hw, [.int .i64 t], [fun _ => False], rfl, ⟨rfl, trivial⟩, by simp [DJ]⟩⟩
def impl_BeforePoint.toH (t : Bool) : HL eΓ [.b] := (t, ())
def impl_BeforePoint.run (k : Nat) (h : HL eΓ [.st .s77, .st .s77]) : Option (HL eΓ [.b]) := (impl_BeforePoint.f ((h.1 : S77).f0) ((h.1 : S77).f1) ((h.2.1 : S77).f0) ((h.2.1 : S77).f1)).map impl_BeforePoint.toH
def impl_BeforePoint.spec : Spc env := ⟨125, [.st .s77, .st .s77], [.b], impl_BeforePoint.run⟩
def impl_BeforePoint.ap {R : Type} (k : Nat) (h0 : S77) (h1 : S77) (K : Bool → Option R) : Option R := (impl_BeforePoint.run k (h0, h1, ())).bind fun r => K (r.1 : Bool)
theorem impl_BeforePoint.ap_of {R : Type} {k : Nat} {h0 : S77} {h1 : S77} {r0 : Bool} {K : Bool → Option R} (h : impl_BeforePoint.run k (h0, h1, ()) = some (r0, ())) : impl_BeforePoint.ap k h0 h1 K = K r0 := by unfold impl_BeforePoint.ap; rw [h]; rfl
theorem impl_BeforePoint.go {a0_0 : Int} {a0_1 : Int} {a1_0 : Int} {a1_1 : Int} {t} (h : impl_BeforePoint.f a0_0 a0_1 a1_0 a1_1 = some t) (K : Nat) : impl_BeforePoint.run K ((⟨a0_0, a0_1⟩ : S77), (⟨a1_0, a1_1⟩ : S77), ()) = some (impl_BeforePoint.toH t) := by
  show Option.map _ (impl_BeforePoint.f a0_0 a0_1 a1_0 a1_1) = _
  rw [h]; rfl
theorem impl_BeforePoint.snd : Snd env impl_BeforePoint.spec := ⟨⟨Try.f125, by kernel_rfl, by kernel_rfl, by kernel_rfl⟩, fun k h r he w us hA => by
  obtain ⟨t, ht, rfl⟩ := Option.map_eq_some_iff.1 (show (impl_BeforePoint.f ((h.1 : S77).f0) ((h.1 : S77).f1) ((h.2.1 : S77).f0) ((h.2.1 : S77).f1)).map impl_BeforePoint.toH = some r from he)
  match us, hA with
  | [u0, u1], ⟨q0, q1, _⟩ =>
  obtain ⟨v0, rfl, q0⟩ := q0
  have q0 := (H77.K _ _ _).1 q0
  match e0 : v0.toList, q0 with
  | [c0_0, c0_1], ⟨p0_0, p0_1, _⟩ =>
  obtain rfl : v0 = #[c0_0, c0_1] := by rw [← Array.toArray_toList (xs := v0), e0]
  obtain rfl := List.singleton_inj.1 (show [c0_0] = [Value.int .i64 ((h.1 : S77).f0)] from p0_0)
  obtain rfl := List.singleton_inj.1 (show [c0_1] = [Value.int .i64 ((h.1 : S77).f1)] from p0_1)
  obtain ⟨v1, rfl, q1⟩ := q1
  have q1 := (H77.K _ _ _).1 q1
  match e1 : v1.toList, q1 with
  | [c1_0, c1_1], ⟨p1_0, p1_1, _⟩ =>
  obtain rfl : v1 = #[c1_0, c1_1] := by rw [← Array.toArray_toList (xs := v1), e1]
  obtain rfl := List.singleton_inj.1 (show [c1_0] = [Value.int .i64 ((h.2.1 : S77).f0)] from p1_0)
  obtain rfl := List.singleton_inj.1 (show [c1_1] = [Value.int .i64 ((h.2.1 : S77).f1)] from p1_1)
  refine (impl_BeforePoint.calls (w := w) (h := ht) ).mono ?_
  rintro e w' ⟨he, hw⟩
  exact ⟨_, he, hw, [.bool t], [fun _ => False], rfl, ⟨rfl, trivial⟩, by simp [DJ]⟩⟩
def impl_TurnSegment.Fs : List (Spc env) := []
def impl_TurnSegment.cut : Nat → Option (List (Lv SC)) := lk []
def impl_TurnSegment.ret (r0 : S95) : Option (HL eΓ [.st .s95]) := some (r0, ())
def impl_TurnSegment.run (k : Nat) (h : HL eΓ [.st .s95]) : Option (HL eΓ [.st .s95]) := evF env impl_TurnSegment.Fs Try.f130 impl_TurnSegment.cut [.st .s95] [.st .s95] k h
theorem impl_TurnSegment.ef (k : Nat) (h0 : S95) : impl_TurnSegment.run k (h0, ()) = impl_TurnSegment.ret (⟨(⟨h0.f1.f0, h0.f1.f1⟩ : S77), (⟨h0.f0.f0, h0.f0.f1⟩ : S77)⟩ : S95) := by kernel_rfl
def impl_TurnSegment.toH (t : Int × Int × Int × Int) : HL eΓ [.st .s95] := ((⟨(⟨t.1, t.2.1⟩ : S77), (⟨t.2.2.1, t.2.2.2⟩ : S77)⟩ : S95), ())
def impl_TurnSegment.spec : Spc env := ⟨130, [.st .s95], [.st .s95], impl_TurnSegment.run⟩
def impl_TurnSegment.ap {R : Type} (k : Nat) (h0 : S95) (K : S95 → Option R) : Option R := (impl_TurnSegment.run k (h0, ())).bind fun r => K (r.1 : S95)
theorem impl_TurnSegment.ap_of {R : Type} {k : Nat} {h0 : S95} {r0 : S95} {K : S95 → Option R} (h : impl_TurnSegment.run k (h0, ()) = some (r0, ())) : impl_TurnSegment.ap k h0 K = K r0 := by unfold impl_TurnSegment.ap; rw [h]; rfl
theorem impl_TurnSegment.snd : Snd env impl_TurnSegment.spec := evF_snd env_ok (sndN)
attribute [local irreducible] impl_TurnSegment.run
theorem impl_TurnSegment.rt (a0 : Int) (a1 : Int) (a2 : Int) (a3 : Int) : impl_TurnSegment.ret (⟨(⟨a0, a1⟩ : S77), (⟨a2, a3⟩ : S77)⟩ : S95) = some (impl_TurnSegment.toH (a0, a1, a2, a3)) := rfl
theorem impl_TurnSegment.go {a0_0 : Int} {a0_1 : Int} {a0_2 : Int} {a0_3 : Int} {t} (h : impl_TurnSegment.f a0_0 a0_1 a0_2 a0_3 = some t) (K : Nat) : impl_TurnSegment.run K ((⟨(⟨a0_0, a0_1⟩ : S77), (⟨a0_2, a0_3⟩ : S77)⟩ : S95), ()) = some (impl_TurnSegment.toH t) := by
  rw [impl_TurnSegment.ef]
  (try dsimp only)
  unfold impl_TurnSegment.f at h
  repeat' (with_reducible first
   | exact nos h
   | (cases some_inj h; exact impl_TurnSegment.rt _ _ _ _)
   | (simp only [Option.bind_some] at h)
   | (refine ite_by h ?_ ?_ <;> (intro hc h; (try simp only [nrm] at hc)))
   | refine itT ?_
   | refine itF ?_
   | (simp only [nr2] at h ⊢)
   | (exfalso; omega))
def impl_forward.Fs : List (Spc env) := [impl_BeforePoint.spec, impl_TurnSegment.spec]
def impl_forward.cut : Nat → Option (List (Lv SC)) := lk []
def impl_forward.ret (r0 : S95) : Option (HL eΓ [.st .s95]) := some (r0, ())
def impl_forward.run (k : Nat) (h : HL eΓ [.st .s95]) : Option (HL eΓ [.st .s95]) := evF env impl_forward.Fs Try.f124 impl_forward.cut [.st .s95] [.st .s95] k h
theorem impl_forward.ef (k : Nat) (h0 : S95) : impl_forward.run k (h0, ()) = impl_BeforePoint.ap k (⟨h0.f1.f0, h0.f1.f1⟩ : S77) (⟨h0.f0.f0, h0.f0.f1⟩ : S77) fun r1 => if r1 = true then (impl_TurnSegment.ap k (⟨(⟨h0.f0.f0, h0.f0.f1⟩ : S77), (⟨h0.f1.f0, h0.f1.f1⟩ : S77)⟩ : S95) fun r2 => impl_forward.ret (⟨(⟨r2.f0.f0, r2.f0.f1⟩ : S77), (⟨r2.f1.f0, r2.f1.f1⟩ : S77)⟩ : S95)) else (impl_forward.ret (⟨(⟨h0.f0.f0, h0.f0.f1⟩ : S77), (⟨h0.f1.f0, h0.f1.f1⟩ : S77)⟩ : S95)) := by kernel_rfl
def impl_forward.toH (t : Int × Int × Int × Int) : HL eΓ [.st .s95] := ((⟨(⟨t.1, t.2.1⟩ : S77), (⟨t.2.2.1, t.2.2.2⟩ : S77)⟩ : S95), ())
def impl_forward.spec : Spc env := ⟨124, [.st .s95], [.st .s95], impl_forward.run⟩
def impl_forward.ap {R : Type} (k : Nat) (h0 : S95) (K : S95 → Option R) : Option R := (impl_forward.run k (h0, ())).bind fun r => K (r.1 : S95)
theorem impl_forward.ap_of {R : Type} {k : Nat} {h0 : S95} {r0 : S95} {K : S95 → Option R} (h : impl_forward.run k (h0, ()) = some (r0, ())) : impl_forward.ap k h0 K = K r0 := by unfold impl_forward.ap; rw [h]; rfl
theorem impl_forward.snd : Snd env impl_forward.spec := evF_snd env_ok (sndC impl_BeforePoint.snd (sndC impl_TurnSegment.snd (sndN)))
attribute [local irreducible] impl_forward.run
theorem impl_forward.rt (a0 : Int) (a1 : Int) (a2 : Int) (a3 : Int) : impl_forward.ret (⟨(⟨a0, a1⟩ : S77), (⟨a2, a3⟩ : S77)⟩ : S95) = some (impl_forward.toH (a0, a1, a2, a3)) := rfl
theorem impl_forward.go {a0_0 : Int} {a0_1 : Int} {a0_2 : Int} {a0_3 : Int} {t} (h : impl_forward.f a0_0 a0_1 a0_2 a0_3 = some t) (K : Nat) : impl_forward.run K ((⟨(⟨a0_0, a0_1⟩ : S77), (⟨a0_2, a0_3⟩ : S77)⟩ : S95), ()) = some (impl_forward.toH t) := by
  rw [impl_forward.ef]
  (try dsimp only)
  unfold impl_forward.f at h
  repeat' (with_reducible first
   | exact nos h
   | (cases some_inj h; exact impl_forward.rt _ _ _ _)
   | (simp only [Option.bind_some] at h)
   | (refine ite_by h ?_ ?_ <;> (intro hc h; (try simp only [nrm] at hc)))
   | refine itT ?_
   | refine itF ?_
   | (refine bind_by h (fun t ht h => ?_); (first | refine (impl_BeforePoint.ap_of (impl_BeforePoint.go ht _)).trans ?_ | refine (impl_TurnSegment.ap_of (impl_TurnSegment.go ht _)).trans ?_); (try dsimp only at h ⊢))
   | (simp only [nr2] at h ⊢)
   | (exfalso; omega))
def impl_IsOn.toH (t : Bool) : HL eΓ [.b] := (t, ())
def impl_IsOn.run (k : Nat) (h : HL eΓ [.st .s95, .st .s77]) : Option (HL eΓ [.b]) := (impl_IsOn.f ((h.1 : S95).f0.f0) ((h.1 : S95).f0.f1) ((h.1 : S95).f1.f0) ((h.1 : S95).f1.f1) ((h.2.1 : S77).f0) ((h.2.1 : S77).f1)).map impl_IsOn.toH
def impl_IsOn.spec : Spc env := ⟨126, [.st .s95, .st .s77], [.b], impl_IsOn.run⟩
def impl_IsOn.ap {R : Type} (k : Nat) (h0 : S95) (h1 : S77) (K : Bool → Option R) : Option R := (impl_IsOn.run k (h0, h1, ())).bind fun r => K (r.1 : Bool)
theorem impl_IsOn.ap_of {R : Type} {k : Nat} {h0 : S95} {h1 : S77} {r0 : Bool} {K : Bool → Option R} (h : impl_IsOn.run k (h0, h1, ()) = some (r0, ())) : impl_IsOn.ap k h0 h1 K = K r0 := by unfold impl_IsOn.ap; rw [h]; rfl
theorem impl_IsOn.go {a0_0 : Int} {a0_1 : Int} {a0_2 : Int} {a0_3 : Int} {a1_0 : Int} {a1_1 : Int} {t} (h : impl_IsOn.f a0_0 a0_1 a0_2 a0_3 a1_0 a1_1 = some t) (K : Nat) : impl_IsOn.run K ((⟨(⟨a0_0, a0_1⟩ : S77), (⟨a0_2, a0_3⟩ : S77)⟩ : S95), (⟨a1_0, a1_1⟩ : S77), ()) = some (impl_IsOn.toH t) := by
  show Option.map _ (impl_IsOn.f a0_0 a0_1 a0_2 a0_3 a1_0 a1_1) = _
  rw [h]; rfl
theorem impl_IsOn.snd : Snd env impl_IsOn.spec := ⟨⟨Try.f126, by kernel_rfl, by kernel_rfl, by kernel_rfl⟩, fun k h r he w us hA => by
  obtain ⟨t, ht, rfl⟩ := Option.map_eq_some_iff.1 (show (impl_IsOn.f ((h.1 : S95).f0.f0) ((h.1 : S95).f0.f1) ((h.1 : S95).f1.f0) ((h.1 : S95).f1.f1) ((h.2.1 : S77).f0) ((h.2.1 : S77).f1)).map impl_IsOn.toH = some r from he)
  match us, hA with
  | [u0, u1], ⟨q0, q1, _⟩ =>
  obtain ⟨v0, rfl, q0⟩ := q0
  have q0 := (H95.K _ _ _).1 q0
  match e0 : v0.toList, q0 with
  | [c0_0, c0_1, c0_2, c0_3], ⟨p0_0, p0_1, p0_2, p0_3, _⟩ =>
  obtain rfl : v0 = #[c0_0, c0_1, c0_2, c0_3] := by rw [← Array.toArray_toList (xs := v0), e0]
  obtain rfl := List.singleton_inj.1 (show [c0_0] = [Value.int .i64 ((h.1 : S95).f0.f0)] from p0_0)
  obtain rfl := List.singleton_inj.1 (show [c0_1] = [Value.int .i64 ((h.1 : S95).f0.f1)] from p0_1)
  obtain rfl := List.singleton_inj.1 (show [c0_2] = [Value.int .i64 ((h.1 : S95).f1.f0)] from p0_2)
  obtain rfl := List.singleton_inj.1 (show [c0_3] = [Value.int .i64 ((h.1 : S95).f1.f1)] from p0_3)
  obtain ⟨v1, rfl, q1⟩ := q1
  have q1 := (H77.K _ _ _).1 q1
  match e1 : v1.toList, q1 with
  | [c1_0, c1_1], ⟨p1_0, p1_1, _⟩ =>
  obtain rfl : v1 = #[c1_0, c1_1] := by rw [← Array.toArray_toList (xs := v1), e1]
  obtain rfl := List.singleton_inj.1 (show [c1_0] = [Value.int .i64 ((h.2.1 : S77).f0)] from p1_0)
  obtain rfl := List.singleton_inj.1 (show [c1_1] = [Value.int .i64 ((h.2.1 : S77).f1)] from p1_1)
  refine (impl_IsOn.calls (w := w) (h := ht) ).mono ?_
  rintro e w' ⟨he, hw⟩
  exact ⟨_, he, hw, [.bool t], [fun _ => False], rfl, ⟨rfl, trivial⟩, by simp [DJ]⟩⟩
def impl_HowMeet.Fs : List (Spc env) := [impl_IsSegment.spec, impl_SideOf.spec, impl_forward.spec, impl_BeforePoint.spec, impl_IsOn.spec]
def impl_HowMeet.cut : Nat → Option (List (Lv SC)) := lk []
def impl_HowMeet.ret (r0 : Int) : Option (HL eΓ [.i .i64]) := some (r0, ())
def impl_HowMeet.run (k : Nat) (h : HL eΓ [.st .s95, .st .s95]) : Option (HL eΓ [.i .i64]) := evF env impl_HowMeet.Fs Try.f107 impl_HowMeet.cut [.st .s95, .st .s95] [.i .i64] k h
theorem impl_HowMeet.ef (k : Nat) (h0 : S95) (h1 : S95) : impl_HowMeet.run k (h0, h1, ()) = impl_IsSegment.ap k (⟨(⟨h0.f0.f0, h0.f0.f1⟩ : S77), (⟨h0.f1.f0, h0.f1.f1⟩ : S77)⟩ : S95) fun r1 => if (!r1) = true then (impl_HowMeet.ret 0) else (impl_IsSegment.ap k (⟨(⟨h1.f0.f0, h1.f0.f1⟩ : S77), (⟨h1.f1.f0, h1.f1.f1⟩ : S77)⟩ : S95) fun r2 => if (!r2) = true then (impl_HowMeet.ret 0) else (impl_SideOf.ap k (⟨h0.f0.f0, h0.f0.f1⟩ : S77) (⟨h0.f1.f0, h0.f1.f1⟩ : S77) (⟨h1.f0.f0, h1.f0.f1⟩ : S77) fun r3 => impl_SideOf.ap k (⟨h0.f0.f0, h0.f0.f1⟩ : S77) (⟨h0.f1.f0, h0.f1.f1⟩ : S77) (⟨h1.f1.f0, h1.f1.f1⟩ : S77) fun r4 => if r3 = 0 then (if r4 = 0 then (impl_forward.ap k (⟨(⟨h0.f0.f0, h0.f0.f1⟩ : S77), (⟨h0.f1.f0, h0.f1.f1⟩ : S77)⟩ : S95) fun r5 => impl_forward.ap k (⟨(⟨h1.f0.f0, h1.f0.f1⟩ : S77), (⟨h1.f1.f0, h1.f1.f1⟩ : S77)⟩ : S95) fun r6 => impl_BeforePoint.ap k (⟨r5.f0.f0, r5.f0.f1⟩ : S77) (⟨r6.f0.f0, r6.f0.f1⟩ : S77) fun r7 => if r7 = true then (impl_BeforePoint.ap k (⟨r6.f1.f0, r6.f1.f1⟩ : S77) (⟨r5.f1.f0, r5.f1.f1⟩ : S77) fun r8 => if r8 = true then (impl_BeforePoint.ap k (⟨r6.f1.f0, r6.f1.f1⟩ : S77) (⟨r6.f0.f0, r6.f0.f1⟩ : S77) fun r9 => if r9 = true then (impl_HowMeet.ret 0) else (if r6.f0.f0 = r6.f1.f0 ∧ (r6.f0.f1 = r6.f1.f1 ∧ True) then (impl_HowMeet.ret 1) else (impl_HowMeet.ret 3))) else (impl_BeforePoint.ap k (⟨r5.f1.f0, r5.f1.f1⟩ : S77) (⟨r6.f0.f0, r6.f0.f1⟩ : S77) fun r10 => if r10 = true then (impl_HowMeet.ret 0) else (if r6.f0.f0 = r5.f1.f0 ∧ (r6.f0.f1 = r5.f1.f1 ∧ True) then (impl_HowMeet.ret 1) else (impl_HowMeet.ret 3)))) else (impl_BeforePoint.ap k (⟨r6.f1.f0, r6.f1.f1⟩ : S77) (⟨r5.f1.f0, r5.f1.f1⟩ : S77) fun r11 => if r11 = true then (impl_BeforePoint.ap k (⟨r6.f1.f0, r6.f1.f1⟩ : S77) (⟨r5.f0.f0, r5.f0.f1⟩ : S77) fun r12 => if r12 = true then (impl_HowMeet.ret 0) else (if r5.f0.f0 = r6.f1.f0 ∧ (r5.f0.f1 = r6.f1.f1 ∧ True) then (impl_HowMeet.ret 1) else (impl_HowMeet.ret 3))) else (impl_BeforePoint.ap k (⟨r5.f1.f0, r5.f1.f1⟩ : S77) (⟨r5.f0.f0, r5.f0.f1⟩ : S77) fun r13 => if r13 = true then (impl_HowMeet.ret 0) else (if r5.f0.f0 = r5.f1.f0 ∧ (r5.f0.f1 = r5.f1.f1 ∧ True) then (impl_HowMeet.ret 1) else (impl_HowMeet.ret 3))))) else (if (wrap64 (r3 * r4)) < 0 then (impl_SideOf.ap k (⟨h1.f0.f0, h1.f0.f1⟩ : S77) (⟨h1.f1.f0, h1.f1.f1⟩ : S77) (⟨h0.f0.f0, h0.f0.f1⟩ : S77) fun r14 => impl_SideOf.ap k (⟨h1.f0.f0, h1.f0.f1⟩ : S77) (⟨h1.f1.f0, h1.f1.f1⟩ : S77) (⟨h0.f1.f0, h0.f1.f1⟩ : S77) fun r15 => if (wrap64 (r14 * r15)) < 0 then (impl_HowMeet.ret 2) else (impl_IsOn.ap k (⟨(⟨h0.f0.f0, h0.f0.f1⟩ : S77), (⟨h0.f1.f0, h0.f1.f1⟩ : S77)⟩ : S95) (⟨h1.f0.f0, h1.f0.f1⟩ : S77) fun r16 => if r16 = true then (impl_HowMeet.ret 1) else (impl_IsOn.ap k (⟨(⟨h0.f0.f0, h0.f0.f1⟩ : S77), (⟨h0.f1.f0, h0.f1.f1⟩ : S77)⟩ : S95) (⟨h1.f1.f0, h1.f1.f1⟩ : S77) fun r17 => if r17 = true then (impl_HowMeet.ret 1) else (impl_IsOn.ap k (⟨(⟨h1.f0.f0, h1.f0.f1⟩ : S77), (⟨h1.f1.f0, h1.f1.f1⟩ : S77)⟩ : S95) (⟨h0.f0.f0, h0.f0.f1⟩ : S77) fun r18 => if r18 = true then (impl_HowMeet.ret 1) else (impl_IsOn.ap k (⟨(⟨h1.f0.f0, h1.f0.f1⟩ : S77), (⟨h1.f1.f0, h1.f1.f1⟩ : S77)⟩ : S95) (⟨h0.f1.f0, h0.f1.f1⟩ : S77) fun r19 => if r19 = true then (impl_HowMeet.ret 1) else (impl_HowMeet.ret 0)))))) else (impl_IsOn.ap k (⟨(⟨h0.f0.f0, h0.f0.f1⟩ : S77), (⟨h0.f1.f0, h0.f1.f1⟩ : S77)⟩ : S95) (⟨h1.f0.f0, h1.f0.f1⟩ : S77) fun r20 => if r20 = true then (impl_HowMeet.ret 1) else (impl_IsOn.ap k (⟨(⟨h0.f0.f0, h0.f0.f1⟩ : S77), (⟨h0.f1.f0, h0.f1.f1⟩ : S77)⟩ : S95) (⟨h1.f1.f0, h1.f1.f1⟩ : S77) fun r21 => if r21 = true then (impl_HowMeet.ret 1) else (impl_IsOn.ap k (⟨(⟨h1.f0.f0, h1.f0.f1⟩ : S77), (⟨h1.f1.f0, h1.f1.f1⟩ : S77)⟩ : S95) (⟨h0.f0.f0, h0.f0.f1⟩ : S77) fun r22 => if r22 = true then (impl_HowMeet.ret 1) else (impl_IsOn.ap k (⟨(⟨h1.f0.f0, h1.f0.f1⟩ : S77), (⟨h1.f1.f0, h1.f1.f1⟩ : S77)⟩ : S95) (⟨h0.f1.f0, h0.f1.f1⟩ : S77) fun r23 => if r23 = true then (impl_HowMeet.ret 1) else (impl_HowMeet.ret 0))))))) else (if (wrap64 (r3 * r4)) < 0 then (impl_SideOf.ap k (⟨h1.f0.f0, h1.f0.f1⟩ : S77) (⟨h1.f1.f0, h1.f1.f1⟩ : S77) (⟨h0.f0.f0, h0.f0.f1⟩ : S77) fun r24 => impl_SideOf.ap k (⟨h1.f0.f0, h1.f0.f1⟩ : S77) (⟨h1.f1.f0, h1.f1.f1⟩ : S77) (⟨h0.f1.f0, h0.f1.f1⟩ : S77) fun r25 => if (wrap64 (r24 * r25)) < 0 then (impl_HowMeet.ret 2) else (impl_IsOn.ap k (⟨(⟨h0.f0.f0, h0.f0.f1⟩ : S77), (⟨h0.f1.f0, h0.f1.f1⟩ : S77)⟩ : S95) (⟨h1.f0.f0, h1.f0.f1⟩ : S77) fun r26 => if r26 = true then (impl_HowMeet.ret 1) else (impl_IsOn.ap k (⟨(⟨h0.f0.f0, h0.f0.f1⟩ : S77), (⟨h0.f1.f0, h0.f1.f1⟩ : S77)⟩ : S95) (⟨h1.f1.f0, h1.f1.f1⟩ : S77) fun r27 => if r27 = true then (impl_HowMeet.ret 1) else (impl_IsOn.ap k (⟨(⟨h1.f0.f0, h1.f0.f1⟩ : S77), (⟨h1.f1.f0, h1.f1.f1⟩ : S77)⟩ : S95) (⟨h0.f0.f0, h0.f0.f1⟩ : S77) fun r28 => if r28 = true then (impl_HowMeet.ret 1) else (impl_IsOn.ap k (⟨(⟨h1.f0.f0, h1.f0.f1⟩ : S77), (⟨h1.f1.f0, h1.f1.f1⟩ : S77)⟩ : S95) (⟨h0.f1.f0, h0.f1.f1⟩ : S77) fun r29 => if r29 = true then (impl_HowMeet.ret 1) else (impl_HowMeet.ret 0)))))) else (impl_IsOn.ap k (⟨(⟨h0.f0.f0, h0.f0.f1⟩ : S77), (⟨h0.f1.f0, h0.f1.f1⟩ : S77)⟩ : S95) (⟨h1.f0.f0, h1.f0.f1⟩ : S77) fun r30 => if r30 = true then (impl_HowMeet.ret 1) else (impl_IsOn.ap k (⟨(⟨h0.f0.f0, h0.f0.f1⟩ : S77), (⟨h0.f1.f0, h0.f1.f1⟩ : S77)⟩ : S95) (⟨h1.f1.f0, h1.f1.f1⟩ : S77) fun r31 => if r31 = true then (impl_HowMeet.ret 1) else (impl_IsOn.ap k (⟨(⟨h1.f0.f0, h1.f0.f1⟩ : S77), (⟨h1.f1.f0, h1.f1.f1⟩ : S77)⟩ : S95) (⟨h0.f0.f0, h0.f0.f1⟩ : S77) fun r32 => if r32 = true then (impl_HowMeet.ret 1) else (impl_IsOn.ap k (⟨(⟨h1.f0.f0, h1.f0.f1⟩ : S77), (⟨h1.f1.f0, h1.f1.f1⟩ : S77)⟩ : S95) (⟨h0.f1.f0, h0.f1.f1⟩ : S77) fun r33 => if r33 = true then (impl_HowMeet.ret 1) else (impl_HowMeet.ret 0)))))))) := by kernel_rfl
def impl_HowMeet.toH (t : Int) : HL eΓ [.i .i64] := (t, ())
def impl_HowMeet.spec : Spc env := ⟨107, [.st .s95, .st .s95], [.i .i64], impl_HowMeet.run⟩
def impl_HowMeet.ap {R : Type} (k : Nat) (h0 : S95) (h1 : S95) (K : Int → Option R) : Option R := (impl_HowMeet.run k (h0, h1, ())).bind fun r => K (r.1 : Int)
theorem impl_HowMeet.ap_of {R : Type} {k : Nat} {h0 : S95} {h1 : S95} {r0 : Int} {K : Int → Option R} (h : impl_HowMeet.run k (h0, h1, ()) = some (r0, ())) : impl_HowMeet.ap k h0 h1 K = K r0 := by unfold impl_HowMeet.ap; rw [h]; rfl
theorem impl_HowMeet.snd : Snd env impl_HowMeet.spec := evF_snd env_ok (sndC impl_IsSegment.snd (sndC impl_SideOf.snd (sndC impl_forward.snd (sndC impl_BeforePoint.snd (sndC impl_IsOn.snd (sndN))))))
attribute [local irreducible] impl_HowMeet.run
theorem impl_HowMeet.rt (a0 : Int) : impl_HowMeet.ret a0 = some (impl_HowMeet.toH (a0)) := rfl
theorem impl_HowMeet.go {k : Nat} {a0_0 : Int} {a0_1 : Int} {a0_2 : Int} {a0_3 : Int} {a1_0 : Int} {a1_1 : Int} {a1_2 : Int} {a1_3 : Int} {t} (h : impl_HowMeet.f k a0_0 a0_1 a0_2 a0_3 a1_0 a1_1 a1_2 a1_3 = some t) (K : Nat) (hK : k ≤ K) : impl_HowMeet.run K ((⟨(⟨a0_0, a0_1⟩ : S77), (⟨a0_2, a0_3⟩ : S77)⟩ : S95), (⟨(⟨a1_0, a1_1⟩ : S77), (⟨a1_2, a1_3⟩ : S77)⟩ : S95), ()) = some (impl_HowMeet.toH t) := by
  rw [impl_HowMeet.ef]
  (try dsimp only)
  unfold impl_HowMeet.f at h
  repeat' (with_reducible first
   | exact nos h
   | (cases some_inj h; exact impl_HowMeet.rt _)
   | ((have q : impl_HowMeet.j0 k _ _ _ _ _ _ _ _ _ = some _ := h; clear q); rcases k with _ | k <;> simp only [impl_HowMeet.j0, reduceCtorEq] at h)
   | ((have q : impl_HowMeet.j1 k _ _ _ _ _ _ _ _ _ _ _ = some _ := h; clear q); rcases k with _ | k <;> simp only [impl_HowMeet.j1, reduceCtorEq] at h)
   | ((have q : impl_HowMeet.j2 k _ _ _ _ _ _ _ _ = some _ := h; clear q); rcases k with _ | k <;> simp only [impl_HowMeet.j2, reduceCtorEq] at h)
   | ((have q : impl_HowMeet.j3 k _ _ _ _ = some _ := h; clear q); rcases k with _ | k <;> simp only [impl_HowMeet.j3, reduceCtorEq] at h)
   | ((have q : impl_HowMeet.j4 k _ _ _ _ _ _ _ _ _ = some _ := h; clear q); rcases k with _ | k <;> simp only [impl_HowMeet.j4, reduceCtorEq] at h)
   | (simp only [Option.bind_some] at h)
   | (refine ite_by h ?_ ?_ <;> (intro hc h; (try simp only [nrm] at hc)))
   | refine itT ?_
   | refine itF ?_
   | (refine bind_by h (fun t ht h => ?_); (first | refine (impl_IsSegment.ap_of (impl_IsSegment.go ht _)).trans ?_ | refine (impl_SideOf.ap_of (impl_SideOf.go ht _)).trans ?_ | refine (impl_forward.ap_of (impl_forward.go ht _)).trans ?_ | refine (impl_BeforePoint.ap_of (impl_BeforePoint.go ht _)).trans ?_ | refine (impl_IsOn.ap_of (impl_IsOn.go ht _)).trans ?_); (try dsimp only at h ⊢))
   | (simp only [nr2] at h ⊢)
   | (exfalso; omega))
def impl_IsRing.Fs : List (Spc env) := [impl_around.spec, impl_IsSegment.spec, impl_HowMeet.spec]
def impl_IsRing.fin : St eΓ → Option (HL eΓ [.b]) := finR env Try.f78.results.toList [.b]
def impl_IsRing.cut : Nat → Option (List (Lv SC)) := lk [(5, [⟨3, none, false⟩, ⟨18, none, false⟩, ⟨19, none, false⟩]), (10, [⟨3, none, false⟩, ⟨4, none, false⟩, ⟨18, none, false⟩, ⟨19, none, false⟩, ⟨28, none, false⟩, ⟨29, none, false⟩])]
def impl_IsRing.ret (r0 : Bool) : Option (HL eΓ [.b]) := some (r0, ())
def impl_IsRing.p5 (k : Nat) (x18 : Int) (x19 : Int) (x3 : List S95) : Option (HL eΓ [.b]) := evM env impl_IsRing.Fs Try.f78.ntmps impl_IsRing.fin impl_IsRing.cut k [.code (sub_ [1, 1, 1, 0, 1, 0, 0, 0] (bodyOf Try.f78)), .code (sub_ [1, 1, 1, 0, 1, 0, 0, 1] (bodyOf Try.f78)), .lp (sub_ [1, 1, 1, 0, 1, 0, 0] (bodyOf Try.f78)), .blk 0, .code (sub_ [1, 1, 1, 1] (bodyOf Try.f78))] (mkSt [(3, .c (.sl 0)), (18, .c (.v (.int .i64 x18))), (19, .c (.v (.int .i64 x19)))] [.row .own 95 (.st .s95) x3])
def impl_IsRing.p10 (k : Nat) (x4 : Int) (x18 : Int) (x19 : Int) (x28 : Int) (x29 : Int) (x3 : List S95) : Option (HL eΓ [.b]) := evM env impl_IsRing.Fs Try.f78.ntmps impl_IsRing.fin impl_IsRing.cut k [.code (sub_ [1, 1, 1, 0, 1, 0, 0, 1, 1, 0, 0, 1, 1, 1, 0, 0, 0] (bodyOf Try.f78)), .code (sub_ [1, 1, 1, 0, 1, 0, 0, 1, 1, 0, 0, 1, 1, 1, 0, 0, 1] (bodyOf Try.f78)), .lp (sub_ [1, 1, 1, 0, 1, 0, 0, 1, 1, 0, 0, 1, 1, 1, 0, 0] (bodyOf Try.f78)), .blk 2, .blk 1, .code (sub_ [1, 1, 1, 0, 1, 0, 0, 1, 1, 1] (bodyOf Try.f78)), .lp (sub_ [1, 1, 1, 0, 1, 0, 0] (bodyOf Try.f78)), .blk 0, .code (sub_ [1, 1, 1, 1] (bodyOf Try.f78))] (mkSt [(3, .c (.sl 0)), (4, .c (.v (.int .i64 x4))), (18, .c (.v (.int .i64 x18))), (19, .c (.v (.int .i64 x19))), (28, .c (.v (.int .i64 x28))), (29, .c (.v (.int .i64 x29)))] [.row .own 95 (.st .s95) x3])
theorem impl_IsRing.e5 (k : Nat) (x18 : Int) (x19 : Int) (x3 : List S95) : impl_IsRing.p5 (k + 1) x18 x19 x3 = if x19 < x18 then (if 0 ≤ x19 then (if x19 < (x3.length : Int) then (impl_IsSegment.ap k (⟨(⟨(rd_T95 x3 x19).f0.f0, (rd_T95 x3 x19).f0.f1⟩ : S77), (⟨(rd_T95 x3 x19).f1.f0, (rd_T95 x3 x19).f1.f1⟩ : S77)⟩ : S95) fun r1 => if (!r1) = true then (impl_IsRing.ret false) else (impl_IsRing.p10 k x19 x18 x19 x19 0 x3)) else none) else none) else (impl_IsRing.ret true) := by kernel_rfl
theorem impl_IsRing.e10 (k : Nat) (x4 : Int) (x18 : Int) (x19 : Int) (x28 : Int) (x29 : Int) (x3 : List S95) : impl_IsRing.p10 (k + 1) x4 x18 x19 x28 x29 x3 = if x29 < x28 then (if x29 = (wrap64 (x4 - 1)) then (if 0 ≤ x4 then (if x4 < (x3.length : Int) then (if 0 ≤ x29 then (if x29 < (x3.length : Int) then (impl_HowMeet.ap k (⟨(⟨(rd_T95 x3 x4).f0.f0, (rd_T95 x3 x4).f0.f1⟩ : S77), (⟨(rd_T95 x3 x4).f1.f0, (rd_T95 x3 x4).f1.f1⟩ : S77)⟩ : S95) (⟨(⟨(rd_T95 x3 x29).f0.f0, (rd_T95 x3 x29).f0.f1⟩ : S77), (⟨(rd_T95 x3 x29).f1.f0, (rd_T95 x3 x29).f1.f1⟩ : S77)⟩ : S95) fun r1 => if ¬ r1 = 1 then (impl_IsRing.ret false) else (impl_IsRing.p10 k x4 x18 x19 x28 (wrap64 (x29 + 1)) x3)) else none) else none) else none) else none) else (if x29 = 0 then (if x4 = (wrap64 ((x3.length : Int) - 1)) then (if 0 ≤ x4 then (if x4 < (x3.length : Int) then (if 0 ≤ x29 then (if x29 < (x3.length : Int) then (impl_HowMeet.ap k (⟨(⟨(rd_T95 x3 x4).f0.f0, (rd_T95 x3 x4).f0.f1⟩ : S77), (⟨(rd_T95 x3 x4).f1.f0, (rd_T95 x3 x4).f1.f1⟩ : S77)⟩ : S95) (⟨(⟨(rd_T95 x3 x29).f0.f0, (rd_T95 x3 x29).f0.f1⟩ : S77), (⟨(rd_T95 x3 x29).f1.f0, (rd_T95 x3 x29).f1.f1⟩ : S77)⟩ : S95) fun r2 => if ¬ r2 = 1 then (impl_IsRing.ret false) else (impl_IsRing.p10 k x4 x18 x19 x28 (wrap64 (x29 + 1)) x3)) else none) else none) else none) else none) else (if 0 ≤ x4 then (if x4 < (x3.length : Int) then (if 0 ≤ x29 then (if x29 < (x3.length : Int) then (impl_HowMeet.ap k (⟨(⟨(rd_T95 x3 x4).f0.f0, (rd_T95 x3 x4).f0.f1⟩ : S77), (⟨(rd_T95 x3 x4).f1.f0, (rd_T95 x3 x4).f1.f1⟩ : S77)⟩ : S95) (⟨(⟨(rd_T95 x3 x29).f0.f0, (rd_T95 x3 x29).f0.f1⟩ : S77), (⟨(rd_T95 x3 x29).f1.f0, (rd_T95 x3 x29).f1.f1⟩ : S77)⟩ : S95) fun r3 => if ¬ r3 = 0 then (impl_IsRing.ret false) else (impl_IsRing.p10 k x4 x18 x19 x28 (wrap64 (x29 + 1)) x3)) else none) else none) else none) else none)) else (if 0 ≤ x4 then (if x4 < (x3.length : Int) then (if 0 ≤ x29 then (if x29 < (x3.length : Int) then (impl_HowMeet.ap k (⟨(⟨(rd_T95 x3 x4).f0.f0, (rd_T95 x3 x4).f0.f1⟩ : S77), (⟨(rd_T95 x3 x4).f1.f0, (rd_T95 x3 x4).f1.f1⟩ : S77)⟩ : S95) (⟨(⟨(rd_T95 x3 x29).f0.f0, (rd_T95 x3 x29).f0.f1⟩ : S77), (⟨(rd_T95 x3 x29).f1.f0, (rd_T95 x3 x29).f1.f1⟩ : S77)⟩ : S95) fun r4 => if ¬ r4 = 0 then (impl_IsRing.ret false) else (impl_IsRing.p10 k x4 x18 x19 x28 (wrap64 (x29 + 1)) x3)) else none) else none) else none) else none))) else (impl_IsRing.p5 k x18 (wrap64 (x19 + 1)) x3) := by kernel_rfl
def impl_IsRing.run (k : Nat) (h : HL eΓ [.l 77 (.st .s77)]) : Option (HL eΓ [.b]) := evF env impl_IsRing.Fs Try.f78 impl_IsRing.cut [.l 77 (.st .s77)] [.b] k h
theorem impl_IsRing.ef (k : Nat) (h0 : List S77) : impl_IsRing.run k (h0, ()) = if (h0.length : Int) < 3 then (impl_IsRing.ret false) else (if (h0.length : Int) > 10 then (impl_IsRing.ret false) else (impl_around.ap k h0 fun r1 => impl_IsRing.p5 k (r1.length : Int) 0 r1)) := by kernel_rfl
def impl_IsRing.toH (t : Bool) : HL eΓ [.b] := (t, ())
def impl_IsRing.spec : Spc env := ⟨78, [.l 77 (.st .s77)], [.b], impl_IsRing.run⟩
def impl_IsRing.ap {R : Type} (k : Nat) (h0 : List S77) (K : Bool → Option R) : Option R := (impl_IsRing.run k (h0, ())).bind fun r => K (r.1 : Bool)
theorem impl_IsRing.ap_of {R : Type} {k : Nat} {h0 : List S77} {r0 : Bool} {K : Bool → Option R} (h : impl_IsRing.run k (h0, ()) = some (r0, ())) : impl_IsRing.ap k h0 K = K r0 := by unfold impl_IsRing.ap; rw [h]; rfl
theorem impl_IsRing.snd : Snd env impl_IsRing.spec := evF_snd env_ok (sndC impl_around.snd (sndC impl_IsSegment.snd (sndC impl_HowMeet.snd (sndN))))
attribute [local irreducible] impl_IsRing.run
theorem impl_IsRing.rt (a0 : Bool) : impl_IsRing.ret a0 = some (impl_IsRing.toH (a0)) := rfl
theorem impl_IsRing.br (n : Nat) : (∀ K, n ≤ K → ∀ (x18 : Int) (x19 : Int) (x3 : List S95) t, impl_IsRing.l0 n x3 x18 x19 = some t → impl_IsRing.p5 K x18 x19 x3 = some (impl_IsRing.toH t)) ∧ (∀ K, n ≤ K → ∀ (x4 : Int) (x18 : Int) (x19 : Int) (x28 : Int) (x29 : Int) (x3 : List S95) t, impl_IsRing.l1 n x3 x4 x18 x19 x28 x29 = some t → impl_IsRing.p10 K x4 x18 x19 x28 x29 x3 = some (impl_IsRing.toH t)) := by
  induction n using Nat.strongRecOn with
  | _ n ih =>
  refine ⟨fun K hK x18 x19 x3 t h => ?_, fun K hK x4 x18 x19 x28 x29 x3 t h => ?_⟩
  all_goals (rcases n with _ | k)
  all_goals (try (exact nos h))
  all_goals (obtain ⟨K, rfl⟩ : ∃ q, K = q + 1 := ⟨K - 1, by omega⟩)
  all_goals (first | rw [impl_IsRing.e5] | rw [impl_IsRing.e10])
  all_goals (simp only [impl_IsRing.l0, impl_IsRing.l1] at h)
  repeat' (with_reducible first
   | exact nos h
   | (cases some_inj h; exact impl_IsRing.rt _)
   | exact (ih _ (by omega)).1 _ (by omega) _ _ _ _ h
   | exact (ih _ (by omega)).2 _ (by omega) _ _ _ _ _ _ _ h
   | ((have q : impl_IsRing.j0 k _ _ = some _ := h; clear q); rcases k with _ | k <;> simp only [impl_IsRing.j0, reduceCtorEq] at h)
   | ((have q : impl_IsRing.j3 k _ _ _ _ _ _ _ _ _ = some _ := h; clear q); rcases k with _ | k <;> simp only [impl_IsRing.j3, reduceCtorEq] at h)
   | (simp only [Option.bind_some] at h)
   | (refine ite_by h ?_ ?_ <;> (intro hc h; (try simp only [nrm] at hc)))
   | refine itT ?_
   | refine itF ?_
   | (refine bind_by h (fun t ht h => ?_); (first | refine (impl_around.ap_of (impl_around.go ht _ (by omega))).trans ?_ | refine (impl_IsSegment.ap_of (impl_IsSegment.go ht _)).trans ?_ | refine (impl_HowMeet.ap_of (impl_HowMeet.go ht _ (by omega))).trans ?_); (try dsimp only at h ⊢))
   | (simp only [nr2] at h ⊢)
   | (exfalso; omega))
theorem impl_IsRing.go {k : Nat} {l0 : List S77} {t} (h : impl_IsRing.f k l0 = some t) (K : Nat) (hK : k ≤ K) : impl_IsRing.run K (l0, ()) = some (impl_IsRing.toH t) := by
  rw [impl_IsRing.ef]
  (try dsimp only)
  unfold impl_IsRing.f at h
  repeat' (with_reducible first
   | exact nos h
   | (cases some_inj h; exact impl_IsRing.rt _)
   | exact (impl_IsRing.br _).1 _ (by omega) _ _ _ _ h
   | exact (impl_IsRing.br _).2 _ (by omega) _ _ _ _ _ _ _ h
   | ((have q : impl_IsRing.j0 k _ _ = some _ := h; clear q); rcases k with _ | k <;> simp only [impl_IsRing.j0, reduceCtorEq] at h)
   | ((have q : impl_IsRing.j3 k _ _ _ _ _ _ _ _ _ = some _ := h; clear q); rcases k with _ | k <;> simp only [impl_IsRing.j3, reduceCtorEq] at h)
   | (simp only [Option.bind_some] at h)
   | (refine ite_by h ?_ ?_ <;> (intro hc h; (try simp only [nrm] at hc)))
   | refine itT ?_
   | refine itF ?_
   | (refine bind_by h (fun t ht h => ?_); (first | refine (impl_around.ap_of (impl_around.go ht _ (by omega))).trans ?_ | refine (impl_IsSegment.ap_of (impl_IsSegment.go ht _)).trans ?_ | refine (impl_HowMeet.ap_of (impl_HowMeet.go ht _ (by omega))).trans ?_); (try dsimp only at h ⊢))
   | (simp only [nr2] at h ⊢)
   | (exfalso; omega))
def impl_RingSegments.Fs : List (Spc env) := [impl_IsRing.spec, impl_around.spec]
def impl_RingSegments.cut : Nat → Option (List (Lv SC)) := lk []
def impl_RingSegments.ret (r0 : List S95) : Option (HL eΓ [.l 95 (.st .s95)]) := some (r0, ())
def impl_RingSegments.run (k : Nat) (h : HL eΓ [.l 77 (.st .s77)]) : Option (HL eΓ [.l 95 (.st .s95)]) := evF env impl_RingSegments.Fs Try.f109 impl_RingSegments.cut [.l 77 (.st .s77)] [.l 95 (.st .s95)] k h
theorem impl_RingSegments.ef (k : Nat) (h0 : List S77) : impl_RingSegments.run k (h0, ()) = impl_IsRing.ap k h0 fun r1 => if (!r1) = true then (impl_RingSegments.ret ([] : List S95)) else (impl_around.ap k h0 fun r2 => impl_RingSegments.ret r2) := by kernel_rfl
def impl_RingSegments.toH (t : (List (S95))) : HL eΓ [.l 95 (.st .s95)] := (t, ())
def impl_RingSegments.spec : Spc env := ⟨109, [.l 77 (.st .s77)], [.l 95 (.st .s95)], impl_RingSegments.run⟩
def impl_RingSegments.ap {R : Type} (k : Nat) (h0 : List S77) (K : (List S95) → Option R) : Option R := (impl_RingSegments.run k (h0, ())).bind fun r => K (r.1 : List S95)
theorem impl_RingSegments.ap_of {R : Type} {k : Nat} {h0 : List S77} {r0 : List S95} {K : (List S95) → Option R} (h : impl_RingSegments.run k (h0, ()) = some (r0, ())) : impl_RingSegments.ap k h0 K = K r0 := by unfold impl_RingSegments.ap; rw [h]; rfl
theorem impl_RingSegments.snd : Snd env impl_RingSegments.spec := evF_snd env_ok (sndC impl_IsRing.snd (sndC impl_around.snd (sndN)))
end
end Go.Proofs.Ytkebhlkbnnlegaa.PFnExactShrinkFeature
