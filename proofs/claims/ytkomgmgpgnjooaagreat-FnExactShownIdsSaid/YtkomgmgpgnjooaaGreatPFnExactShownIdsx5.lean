-- Written by a program of this session's (evlaw.py).
import Derived.Test.YtkomgmgpgnjooaaGreatPFnExactShownIdsx4
namespace Go.Proofs.YtkomgmgpgnjooaaGreat.PFnExactShownIds
open Go.RowKit Go.Proofs.YtkomgmgpgnjooaaGreatW.PrintWords Go.Proofs.YtkomgmgpgnjooaaGreatW.PrintLast Go.Proofs.YtkomgmgpgnjooaaGreatW.PrintMore Go.Proofs.YtkomgmgpgnjooaaGreatGeo Go.Proofs.YtkomgmgpgnjooaaGreatHand Go.Proofs.YtkomgmgpgnjooaaGreatMeet Go.Proofs.YtkomgmgpgnjooaaGreatQuiet Go.Proofs.YtkomgmgpgnjooaaGreatZ
open Go Go.Proofs.YtkomgmgpgnjooaaGreatEv
attribute [local go_sem] max2_int min2_int max_two min_two max_three min_three max_four min_four   -- for this text's walks alone
set_option linter.unusedVariables false
set_option linter.unusedSimpArgs false



set_option linter.unusedSimpArgs false

attribute [local go_sem high] eqA75
set_option linter.unusedVariables false
set_option linter.unusedSimpArgs false
set_option maxRecDepth 100000
noncomputable section
theorem impl_ArePlaces.calls (k : Nat) (A0 : Option Addr) (c0 : Nat) (l0 : List (S77)) (r : Bool) (w : World) (hr0 : Kd.C k77 w A0 l0.length l0) (hc0 : l0.length ≤ c0) (h : impl_ArePlaces.f k l0 = some r) :
  Calls Tryz.prog 152 #[.slice A0 l0.length c0] w fun e w' => e = .returned (.bool r) ∧ Below w.heap.size w w' := by
  refine (impl_ArePlaces.snd.calls _ _ _ (impl_ArePlaces.go h k (Nat.le_refl k)) w [.slice A0 l0.length c0] ⟨⟨_, _, rfl, hc0, hr0⟩, trivial⟩).mono ?_
  rintro e w' ⟨v, rfl, hB, vs, oks, rfl, hR, _⟩
  obtain ⟨x0_, vs, o0_, oks, rfl, rfl, m0_, hR⟩ := rmsC hR
  obtain rfl := rmsN hR
  obtain rfl := List.singleton_inj.1 (show [x0_] = [Value.bool r] from m0_)
  exact ⟨rfl, hB⟩
def impl_FarSquared.Fs : List (Spc env) := [impl_IsPoint.spec]
def impl_FarSquared.cut : Nat → Option (List (Lv SC)) := lk []
def impl_FarSquared.ret (r0 : Int) : Option (HL eΓ [.i .i64]) := some (r0, ())
def impl_FarSquared.run (k : Nat) (h : HL eΓ [.st .s75, .st .s75]) : Option (HL eΓ [.i .i64]) := evF env impl_FarSquared.Fs Tryz.f153 impl_FarSquared.cut [.st .s75, .st .s75] [.i .i64] k h
theorem impl_FarSquared.ef (k : Nat) (h0 : S75) (h1 : S75) : impl_FarSquared.run k (h0, h1, ()) = impl_IsPoint.ap k (⟨h0.f0, h0.f1⟩ : S75) fun r1 => if (!r1) = true then (impl_FarSquared.ret (-1)) else (impl_IsPoint.ap k (⟨h1.f0, h1.f1⟩ : S75) fun r2 => if (!r2) = true then (impl_FarSquared.ret (-1)) else (impl_FarSquared.ret (wrap64 ((wrap64 ((wrap64 (h0.f0 - h1.f0)) * (wrap64 (h0.f0 - h1.f0)))) + (wrap64 ((wrap64 (h0.f1 - h1.f1)) * (wrap64 (h0.f1 - h1.f1)))))))) := by kernel_rfl
def impl_FarSquared.toH (t : Int) : HL eΓ [.i .i64] := (t, ())
def impl_FarSquared.spec : Spc env := ⟨153, [.st .s75, .st .s75], [.i .i64], impl_FarSquared.run⟩
theorem impl_FarSquared.snd : Snd env impl_FarSquared.spec := evF_snd env_ok (sndC impl_IsPoint.snd (sndN))
attribute [local irreducible] impl_FarSquared.run
theorem impl_FarSquared.rt (a0 : Int) : impl_FarSquared.ret a0 = some (impl_FarSquared.toH (a0)) := rfl
theorem impl_FarSquared.go {a0_0 : Int} {a0_1 : Int} {a1_0 : Int} {a1_1 : Int} {t} (h : impl_FarSquared.f a0_0 a0_1 a1_0 a1_1 = some t) (K : Nat) : impl_FarSquared.run K ((⟨a0_0, a0_1⟩ : S75), (⟨a1_0, a1_1⟩ : S75), ()) = some (impl_FarSquared.toH t) := by
  rw [impl_FarSquared.ef]
  (try dsimp only)
  unfold impl_FarSquared.f at h
  repeat' (with_reducible first
   | exact nos h
   | (cases some_inj h; exact impl_FarSquared.rt _)
   | (simp only [Option.bind_some] at h)
   | (refine ite_by h ?_ ?_ <;> (intro hc h; (try simp only [nrm] at hc)))
   | refine itT ?_
   | refine itF ?_
   | (refine bind_by h (fun t ht h => ?_); refine (impl_IsPoint.ap_of (impl_IsPoint.go ht _)).trans ?_; (try dsimp only at h ⊢))
   | (simp only [nr2] at h ⊢)
   | (exfalso; omega))
theorem impl_FarSquared.calls (a0_0 : Int) (a0_1 : Int) (a1_0 : Int) (a1_1 : Int) (r : Int) (w : World) (h : impl_FarSquared.f a0_0 a0_1 a1_0 a1_1 = some r) :
  Calls Tryz.prog 153 #[.agg #[.int .i64 a0_0, .int .i64 a0_1], .agg #[.int .i64 a1_0, .int .i64 a1_1]] w fun e w' => e = .returned (.int .i64 r) ∧ Below w.heap.size w w' := by
  refine (impl_FarSquared.snd.calls _ _ _ (impl_FarSquared.go h 0) w [.agg #[.int .i64 a0_0, .int .i64 a0_1], .agg #[.int .i64 a1_0, .int .i64 a1_1]] ⟨⟨_, rfl, (H75.K _ _ _).2 ⟨rfl, rfl, trivial⟩⟩, ⟨_, rfl, (H75.K _ _ _).2 ⟨rfl, rfl, trivial⟩⟩, trivial⟩).mono ?_
  rintro e w' ⟨v, rfl, hB, vs, oks, rfl, hR, _⟩
  obtain ⟨x0_, vs, o0_, oks, rfl, rfl, m0_, hR⟩ := rmsC hR
  obtain rfl := rmsN hR
  obtain rfl := List.singleton_inj.1 (show [x0_] = [Value.int .i64 r] from m0_)
  exact ⟨rfl, hB⟩
set_option maxHeartbeats 8000000 in
set_option maxRecDepth 100000 in
theorem impl_keptPlaces.calls (k : Nat) (A0 : Option Addr) (c0 : Nat) (l0 : List S77) (a1 : Int) (r : List S77) (w : World) (hr0 : Kd.C k77 w A0 l0.length l0) (hc0 : l0.length ≤ c0) (h : impl_keptPlaces.f k l0 a1 = some r) :
    Calls Tryz.prog 115 #[.slice A0 l0.length c0, .int .i64 a1] w fun e w' => ∃ v0_ : Value, e = .returned (v0_) ∧ Kd.R k77 77 w' w.heap.size (fun _ => True) v0_ r ∧ Below w.heap.size w w' := by
  unfold impl_keptPlaces.f at h
  obtain ⟨ap, h1, h⟩ := Option.bind_eq_some_iff.mp h
  have HR0 := Aside0.mk hr0
  have HC0 := Aside0.mk hc0
  have A1 := Aside0.mk h1
  have HB := Aside0.mk (Below.refl w.heap.size w)
  clear hr0 hc0 h1
  cases ap with
  | false =>
    rw [if_neg (by decide)] at h
    obtain rfl := Option.some.inj h
    clear h
    go_enter Tryz.func115, Tryz.ntmps115
    go_wp2_with (first | ((with_reducible refine gate_dst (N := 11) rfl ?_); (try (refine gate_guard (by rfl) ?_; dsimp only)); refine Kd.R_lit k77 _ 77 ?hg (N := 11) ?hd (xs := ([] : List S77)) (inner := []) (ok := fun _ => True) (okp := fun _ => True) ?hr ?hp (fun _ hk => hk) trivial (Below.refl _ _) (Nat.le_refl _) (by simp) ?_; (case hd => rfl); (case hg => rfl); (case hr => first | (go_simp; done) | (go_simp; rfl)); (case hp => exact (Reps.none _ _)); intro vN wN ho hb hg_ hnew_; clear hg_ hnew_; have q_ := Aside0.mk (Kd.R_lower ho (below_size HB.out)); have q_HB := Aside0.mk (below_step HB.out hb); clear HB; have HB := q_HB; clear q_HB; have HO := q_; clear q_ ho hb) | (go_at_call 152; refine (impl_ArePlaces.calls k A0 c0 l0 _ _ (Kd.C_below HR0.out HB.out) HC0.out A1.out).mono ?_; rintro _ wN ⟨rfl, hb⟩; have q_HB := Aside0.mk (below_step HB.out hb); have q_HO := Aside0.mk (Kd.R_below HO.out hb); clear HB HO; have HB := q_HB; have HO := q_HO; clear q_HB q_HO; clear hb))
    go_ret
    exact ⟨_, rfl, HO.out, HB.out⟩
  | true =>
    rw [if_pos rfl] at h
    obtain ⟨ir, h2, h⟩ := Option.bind_eq_some_iff.mp h
    have A2 := Aside0.mk h2
    clear h2
    cases ir with
    | false =>
      rw [if_neg (by decide)] at h
      obtain rfl := Option.some.inj h
      clear h
      go_enter Tryz.func115, Tryz.ntmps115
      go_wp2_with (first | ((with_reducible refine gate_dst (N := 11) rfl ?_); (try (refine gate_guard (by rfl) ?_; dsimp only)); refine Kd.R_lit k77 _ 77 ?hg (N := 11) ?hd (xs := ([] : List S77)) (inner := []) (ok := fun _ => True) (okp := fun _ => True) ?hr ?hp (fun _ hk => hk) trivial (Below.refl _ _) (Nat.le_refl _) (by simp) ?_; (case hd => rfl); (case hg => rfl); (case hr => first | (go_simp; done) | (go_simp; rfl)); (case hp => exact (Reps.none _ _)); intro vN wN ho hb hg_ hnew_; clear hg_ hnew_; have q_ := Aside0.mk (Kd.R_lower ho (below_size HB.out)); have q_HB := Aside0.mk (below_step HB.out hb); clear HB; have HB := q_HB; clear q_HB; have HO := q_; clear q_ ho hb) | (go_at_call 152; refine (impl_ArePlaces.calls k A0 c0 l0 _ _ (Kd.C_below HR0.out HB.out) HC0.out A1.out).mono ?_; rintro _ wN ⟨rfl, hb⟩; have q_HB := Aside0.mk (below_step HB.out hb); have q_HO := Aside0.mk (Kd.R_below HO.out hb); clear HB HO; have HB := q_HB; have HO := q_HO; clear q_HB q_HO; clear hb) | (go_at_call 104; refine (impl_InRange.calls a1 0 200 _ _ A2.out).mono ?_; rintro _ _ ⟨rfl, ⟨nd, rfl⟩⟩; skip))
      go_ret
      exact ⟨_, rfl, HO.out, HB.out⟩
    | true =>
      rw [if_pos rfl] at h
      obtain ⟨od, h3, h⟩ := Option.bind_eq_some_iff.mp h
      by_cases hlt : od.length < 1000000
      rotate_left
      · rw [if_neg hlt] at h; cases h
      rw [if_pos hlt] at h
      have A3 := Aside0.mk h3
      have LMo := Aside0.mk hlt
      have HX := Aside0.mk (show keptI (wrap64 (a1 * a1)) (od.drop 0) [] = some r from h)
      clear h h3 hlt
      go_enter Tryz.func115, Tryz.ntmps115
      go_upto_block 0 with (first | ((with_reducible refine gate_dst (N := 11) rfl ?_); (try (refine gate_guard (by rfl) ?_; dsimp only)); refine Kd.R_lit k77 _ 77 ?hg (N := 11) ?hd (xs := ([] : List S77)) (inner := []) (ok := fun _ => True) (okp := fun _ => True) ?hr ?hp (fun _ hk => hk) trivial (Below.refl _ _) (Nat.le_refl _) (by simp) ?_; (case hd => rfl); (case hg => rfl); (case hr => first | (go_simp; done) | (go_simp; rfl)); (case hp => exact (Reps.none _ _)); intro vN wN ho hb hg_ hnew_; clear hg_ hnew_; have q_ := Aside0.mk (Kd.R_lower ho (below_size HB.out)); have q_HB := Aside0.mk (below_step HB.out hb); clear HB; have HB := q_HB; clear q_HB; have HO := q_; clear q_ ho hb) | (go_at_call 152; refine (impl_ArePlaces.calls k A0 c0 l0 _ _ (Kd.C_below HR0.out HB.out) HC0.out A1.out).mono ?_; rintro _ wN ⟨rfl, hb⟩; have q_HB := Aside0.mk (below_step HB.out hb); have q_HO := Aside0.mk (Kd.R_below HO.out hb); clear HB HO; have HB := q_HB; have HO := q_HO; clear q_HB q_HO; clear hb) | (go_at_call 104; refine (impl_InRange.calls a1 0 200 _ _ A2.out).mono ?_; rintro _ _ ⟨rfl, ⟨nd, rfl⟩⟩; skip) | (go_at_call 49; refine (impl_fromAbove.calls A0 c0 l0 od _ (Kd.C_below HR0.out HB.out) HC0.out A3.out).mono ?_; rintro _ wN ⟨vN, rfl, ho, hb⟩; have q_ := Aside0.mk (Kd.R_lower (Kd.R_new' ho (Kd.R_lt HO.out)) (below_size HB.out)); have q_HB := Aside0.mk (below_step HB.out hb); have q_HO := Aside0.mk (Kd.R_below HO.out hb); clear HB HO; have HB := q_HB; have HO := q_HO; clear q_HB q_HO; have HD := q_; clear q_ ho hb; obtain ⟨Ad, cd, ed⟩ := Kd.R_slice HD.out; subst ed))
      go_wp2_with fail
      go_loopg [5, 24] od.length (fun gg s5 s24 wr => ∃ (i : Nat) (out : List S77), s24 = .int .i64 (i : Int) ∧ i ≤ od.length ∧ od.length - i ≤ gg ∧ out.length ≤ i ∧ Aside0 (keptI (wrap64 (a1 * a1)) (od.drop i) out = some r) ∧ Aside0 (Kd.R k77 77 wr w.heap.size (fun _ => True) s5 out) ∧ Aside0 (Kd.R k77 77 wr w.heap.size (fun k_ => True ∧ some k_ ≠ (s5 : Value).ownBlock) (.slice Ad od.length cd) od) ∧ Aside0 (Below w.heap.size w wr))
      case atStart => exact ⟨0, [], rfl, Nat.zero_le _, by omega, Nat.le_refl _, HX, HO, HD, HB⟩
      case round =>
        clear HX HO HD HB
        obtain ⟨i, out, rfl, hi, hg, hol, HX, HO, HD, HB⟩ := hrel
        by_cases hlt : i < od.length
        · have q1 : (i : Int) < (od.length : Int) := by omega
          have q0 : 0 ≤ (i : Int) := by omega
          have m1 : od.length - (i + 1) < od.length - i := by omega
          have e0 : wrap64 ((i : Int) + 1) = ((i + 1 : Nat) : Int) := kp_add i (by have := LMo.out; omega)
          have hX := HX.out
          rw [keptI_drop hlt] at hX
          obtain ⟨ad, rfl, p0, p1, p2, p3⟩ := at_T77 (Kd.R_reads' HD.out).2.2 (i : Int) q0 q1
          unfold rd_T77 at p0 p1 p2 p3
          rw [Int.toNat_natCast] at p0 p1 p2 p3
          generalize od.getD i z77 = x at hX p0 p1 p2 p3
          obtain ⟨x0, ⟨x1, x2⟩, x3⟩ := x
          dsimp only at p0 p1 p2 p3
          obtain ⟨b0, hk0, hX⟩ := Option.bind_eq_some_iff.mp hX
          have HK0 := Aside0.mk hk0
          have HX2 := Aside0.mk hX
          have M1 := Aside0.mk m1
          have E0 := Aside0.mk e0
          have LO := Aside0.mk (show out.length < 1000000 by have := LMo.out; omega)
          have HOL := Aside0.mk hol
          clear hk0 hX HX m1 e0 hol
          have q2 := eq_true hlt
          replace q1 := eq_true q1
          replace q0 := eq_true q0
          obtain ⟨Ao, co, rfl⟩ := Kd.R_slice HO.out
          go_upto_region 7 with ((with_reducible refine gate_dst (N := 7) rfl ?_); refine box_event ?hg (N := 7) ?hd (cs := #[.int .i64 0, .int .i64 0, .int .i64 0, .int .i64 0]) (t := 77) ?hr ?_; (case hd => rfl); (case hg => rfl); (case hr => first | (go_simp; done) | (go_simp; rfl)); intro gx hgb w3 hbox hb3; have HBX := Aside0.mk hbox; have HB3 := Aside0.mk hb3; have HG3 := Aside0.mk (Nat.le_of_eq hgb.symm); have NX := Aside0.mk (Kd.fresh' (Kd.R_lt HO.out) gx HG3.out); have z0 : w3.cell? ⟨gx, 0, none⟩ = some (.int .i64 0) := (blk_cell hbox 0).trans rfl; have z1 : w3.cell? ⟨gx, 1, none⟩ = some (.int .i64 0) := (blk_cell hbox 1).trans rfl; have z2 : w3.cell? ⟨gx, 2, none⟩ = some (.int .i64 0) := (blk_cell hbox 2).trans rfl; have z3 : w3.cell? ⟨gx, 3, none⟩ = some (.int .i64 0) := (blk_cell hbox 3).trans rfl; have fr0 : w3.frozen? ⟨gx, 0, none⟩ = false := blk_frozen hbox 0; have fr1 : w3.frozen? ⟨gx, 1, none⟩ = false := blk_frozen hbox 1; have fr2 : w3.frozen? ⟨gx, 2, none⟩ = false := blk_frozen hbox 2; have fr3 : w3.frozen? ⟨gx, 3, none⟩ = false := blk_frozen hbox 3; clear hbox hb3 hgb p0 p1 p2 p3)
          have B4 := box4k HBX.out HB3.out HG3.out (.int .i64 x0) (.int .i64 x1) (.int .i64 x2) (.int .i64 x3)
          dsimp only at B4
          clear z0 z1 z2 z3 fr0 fr1 fr2 fr3 HBX HB3 HG3
          generalize (((w3.setCell ⟨gx, 0, none⟩ (.int .i64 x0)).setCell ⟨gx, 1, none⟩ (.int .i64 x1)).setCell ⟨gx, 2, none⟩ (.int .i64 x2)).setCell ⟨gx, 3, none⟩ (.int .i64 x3) = W4 at B4 ⊢
          obtain ⟨hb, p0, p1, p2, p3⟩ := B4
          have q_HB := Aside0.mk (below_step HB.out hb); have q_HO := Aside0.mk (Kd.R_below HO.out hb); have q_HD := Aside0.mk (Kd.R_below HD.out hb); clear HB HO HD; have HB := q_HB; have HO := q_HO; have HD := q_HD; clear q_HB q_HO q_HD
          have HPC := Aside0.mk (And.intro p0 (And.intro p1 (And.intro p2 p3)))
          clear hb p0 p1 p2 p3
          go_upto_block 2 with (fail)
          go_cut [8] (fun s8 wq => s8 = .bool b0 ∧ Aside0 (wq.cell? ⟨gx, 0, none⟩ = some (.int .i64 x0) ∧ wq.cell? ⟨gx, 1, none⟩ = some (.int .i64 x1) ∧ wq.cell? ⟨gx, 2, none⟩ = some (.int .i64 x2) ∧ wq.cell? ⟨gx, 3, none⟩ = some (.int .i64 x3)) ∧ Aside0 (Kd.R k77 77 wq w.heap.size (fun _ => True) (.slice Ao out.length co) out) ∧ Aside0 (Kd.R k77 77 wq w.heap.size (fun k_ => True ∧ some k_ ≠ (.slice Ao out.length co : Value).ownBlock) (.slice (some ad) od.length cd) od) ∧ Aside0 (Below w.heap.size w wq))
          case first =>
            go_wp2_with fail
            go_loopg [8, 30] out.length (fun gh s8 s30 wq => ∃ (j : Nat) (b : Bool), s8 = .bool b ∧ s30 = .int .i64 (j : Int) ∧ j ≤ out.length ∧ out.length - j ≤ gh ∧ Aside0 (kpI (wrap64 (a1 * a1)) ⟨x0, ⟨x1, x2⟩, x3⟩ (out.drop j) b = some b0) ∧ Aside0 (wq.cell? ⟨gx, 0, none⟩ = some (.int .i64 x0) ∧ wq.cell? ⟨gx, 1, none⟩ = some (.int .i64 x1) ∧ wq.cell? ⟨gx, 2, none⟩ = some (.int .i64 x2) ∧ wq.cell? ⟨gx, 3, none⟩ = some (.int .i64 x3)) ∧ Aside0 (Kd.R k77 77 wq w.heap.size (fun _ => True) (.slice Ao out.length co) out) ∧ Aside0 (Kd.R k77 77 wq w.heap.size (fun k_ => True ∧ some k_ ≠ (.slice Ao out.length co : Value).ownBlock) (.slice (some ad) od.length cd) od) ∧ Aside0 (Below w.heap.size w wq))
            case atStart => exact ⟨0, true, rfl, rfl, Nat.zero_le _, by omega, HK0, HPC, HO, HD, HB⟩
            case round =>
              clear HK0 HPC HO HD HB
              obtain ⟨j, b, rfl, rfl, hj, hgj, HK0, HPC, HO, HD, HB⟩ := hrel
              by_cases hltj : j < out.length
              · have z1_ : (j : Int) < (out.length : Int) := by omega
                have z0_ : 0 ≤ (j : Int) := by omega
                have m2 : out.length - (j + 1) < out.length - j := by omega
                have e1 : wrap64 ((j : Int) + 1) = ((j + 1 : Nat) : Int) := kp_add j (by have := LO.out; omega)
                have hK := HK0.out
                rw [kpI_drop hltj] at hK
                obtain ⟨ad2, rfl, y0_, y1_, y2_, y3_⟩ := at_T77 (Kd.R_reads' HO.out).2.2 (j : Int) z0_ z1_
                unfold rd_T77 at y0_ y1_ y2_ y3_
                rw [Int.toNat_natCast] at y0_ y1_ y2_ y3_
                generalize out.getD j z77 = y at y0_ y1_ y2_ y3_ hK
                obtain ⟨y0, ⟨y1, y2⟩, y3⟩ := y
                dsimp only at y0_ y1_ y2_ y3_ hK
                have HK := Aside0.mk hK
                have E1 := Aside0.mk e1
                have M2 := Aside0.mk m2
                have z2_ := eq_true hltj
                replace z1_ := eq_true z1_
                replace z0_ := eq_true z0_
                clear hK HK0 e1 m2
                go_upto_region 11 with ((with_reducible refine gate_dst (N := 10) rfl ?_); refine box_event ?hg (N := 10) ?hd (cs := #[.int .i64 0, .int .i64 0, .int .i64 0, .int .i64 0]) (t := 77) ?hr ?_; (case hd => rfl); (case hg => rfl); (case hr => first | (go_simp; done) | (go_simp; rfl)); intro gy hgb w3 hbox hb3; have HBX := Aside0.mk hbox; have HB3 := Aside0.mk hb3; have HG3 := Aside0.mk (Nat.le_of_eq hgb.symm); have z0 : w3.cell? ⟨gy, 0, none⟩ = some (.int .i64 0) := (blk_cell hbox 0).trans rfl; have z1 : w3.cell? ⟨gy, 1, none⟩ = some (.int .i64 0) := (blk_cell hbox 1).trans rfl; have z2 : w3.cell? ⟨gy, 2, none⟩ = some (.int .i64 0) := (blk_cell hbox 2).trans rfl; have z3 : w3.cell? ⟨gy, 3, none⟩ = some (.int .i64 0) := (blk_cell hbox 3).trans rfl; have fr0 : w3.frozen? ⟨gy, 0, none⟩ = false := blk_frozen hbox 0; have fr1 : w3.frozen? ⟨gy, 1, none⟩ = false := blk_frozen hbox 1; have fr2 : w3.frozen? ⟨gy, 2, none⟩ = false := blk_frozen hbox 2; have fr3 : w3.frozen? ⟨gy, 3, none⟩ = false := blk_frozen hbox 3; clear hbox hb3 hgb y0_ y1_ y2_ y3_)
                have B4 := box4k HBX.out HB3.out HG3.out (.int .i64 y0) (.int .i64 y1) (.int .i64 y2) (.int .i64 y3)
                dsimp only at B4
                clear z0 z1 z2 z3 fr0 fr1 fr2 fr3 HBX HB3 HG3
                generalize (((w3.setCell ⟨gy, 0, none⟩ (.int .i64 y0)).setCell ⟨gy, 1, none⟩ (.int .i64 y1)).setCell ⟨gy, 2, none⟩ (.int .i64 y2)).setCell ⟨gy, 3, none⟩ (.int .i64 y3) = W5 at B4 ⊢
                obtain ⟨hb, k0, k1, k2, k3⟩ := B4
                have q_HPC : Aside0 (W5.cell? ⟨gx, 0, none⟩ = some (.int .i64 x0) ∧ W5.cell? ⟨gx, 1, none⟩ = some (.int .i64 x1) ∧ W5.cell? ⟨gx, 2, none⟩ = some (.int .i64 x2) ∧ W5.cell? ⟨gx, 3, none⟩ = some (.int .i64 x3)) := ⟨⟨(hb.cell (World.block_lt_of_cell? _ _ HPC.out.1)).trans HPC.out.1, (hb.cell (World.block_lt_of_cell? _ _ HPC.out.2.1)).trans HPC.out.2.1, (hb.cell (World.block_lt_of_cell? _ _ HPC.out.2.2.1)).trans HPC.out.2.2.1, (hb.cell (World.block_lt_of_cell? _ _ HPC.out.2.2.2)).trans HPC.out.2.2.2⟩⟩; clear HPC; have HPC := q_HPC; clear q_HPC
                have q_HB := Aside0.mk (below_step HB.out hb); have q_HO := Aside0.mk (Kd.R_below HO.out hb); have q_HD := Aside0.mk (Kd.R_below HD.out hb); clear HB HO HD; have HB := q_HB; have HO := q_HO; have HD := q_HD; clear q_HB q_HO q_HD
                clear hb
                obtain ⟨p0, p1, p2, p3⟩ := HPC.out
                have hK := HK.out
                cases b with
                | false =>
                  have HK2 := Aside0.mk ((if_neg (by decide)).symm.trans hK)
                  clear hK HK
                  have e1 := E1.out
                  go_wp2_with fail
                  go_roundg (out.length - (j + 1))
                  case measure => exact Nat.lt_of_lt_of_le M2.out hgj
                  case rel => exact ⟨j + 1, false, by first | rfl | (simp; done), by first | rfl | rw [e1], hltj, Nat.le_refl _, HK2, HPC, HO, HD, HB⟩
                | true =>
                  replace hK := (if_pos rfl).symm.trans hK
                  obtain ⟨tt, hfar, hK⟩ := Option.bind_eq_some_iff.mp hK
                  have HFAR := Aside0.mk hfar
                  obtain ⟨FF, hF⟩ : ∃ FF, FF = wrap64 (a1 * a1) := ⟨_, rfl⟩
                  rw [← hF] at hK
                  have f1 : wrap64 (a1 * a1) = FF := hF.symm
                  have f2 : IntKind.i64.wrap (a1 * a1) = FF := (i64_w _).trans f1
                  by_cases hc : FF ≤ tt
                  · have HK2 : Aside0 (kpI (wrap64 (a1 * a1)) ⟨x0, ⟨x1, x2⟩, x3⟩ (out.drop (j + 1)) true = some b0) := ⟨by rw [f1]; rw [decide_eq_true hc] at hK; exact hK⟩
                    have c1 := eq_true hc
                    clear hK HK hfar hF hc
                    go_wp2_with (go_at_call 153; refine (impl_FarSquared.calls x1 x2 y1 y2 tt _ HFAR.out).mono ?_; rintro _ wN ⟨rfl, hb⟩; have q_HPC : Aside0 (wN.cell? ⟨gx, 0, none⟩ = some (.int .i64 x0) ∧ wN.cell? ⟨gx, 1, none⟩ = some (.int .i64 x1) ∧ wN.cell? ⟨gx, 2, none⟩ = some (.int .i64 x2) ∧ wN.cell? ⟨gx, 3, none⟩ = some (.int .i64 x3)) := ⟨⟨(hb.cell (World.block_lt_of_cell? _ _ HPC.out.1)).trans HPC.out.1, (hb.cell (World.block_lt_of_cell? _ _ HPC.out.2.1)).trans HPC.out.2.1, (hb.cell (World.block_lt_of_cell? _ _ HPC.out.2.2.1)).trans HPC.out.2.2.1, (hb.cell (World.block_lt_of_cell? _ _ HPC.out.2.2.2)).trans HPC.out.2.2.2⟩⟩; clear HPC; have HPC := q_HPC; clear q_HPC; have q_HB := Aside0.mk (below_step HB.out hb); have q_HO := Aside0.mk (Kd.R_below HO.out hb); have q_HD := Aside0.mk (Kd.R_below HD.out hb); clear HB HO HD; have HB := q_HB; have HO := q_HO; have HD := q_HD; clear q_HB q_HO q_HD; clear hb p0 p1 p2 p3 k0 k1 k2 k3)
                    clear f1 f2 c1
                    have e1 := E1.out
                    go_wp2_with fail
                    go_roundg (out.length - (j + 1))
                    case measure => exact Nat.lt_of_lt_of_le M2.out hgj
                    case rel => exact ⟨j + 1, true, by first | rfl | (simp; done), by first | rfl | rw [e1], hltj, Nat.le_refl _, HK2, HPC, HO, HD, HB⟩
                  · have HK2 : Aside0 (kpI (wrap64 (a1 * a1)) ⟨x0, ⟨x1, x2⟩, x3⟩ (out.drop (j + 1)) false = some b0) := ⟨by rw [f1]; rw [decide_eq_false hc] at hK; exact hK⟩
                    have c1 := eq_false hc
                    clear hK HK hfar hF hc
                    go_wp2_with (go_at_call 153; refine (impl_FarSquared.calls x1 x2 y1 y2 tt _ HFAR.out).mono ?_; rintro _ wN ⟨rfl, hb⟩; have q_HPC : Aside0 (wN.cell? ⟨gx, 0, none⟩ = some (.int .i64 x0) ∧ wN.cell? ⟨gx, 1, none⟩ = some (.int .i64 x1) ∧ wN.cell? ⟨gx, 2, none⟩ = some (.int .i64 x2) ∧ wN.cell? ⟨gx, 3, none⟩ = some (.int .i64 x3)) := ⟨⟨(hb.cell (World.block_lt_of_cell? _ _ HPC.out.1)).trans HPC.out.1, (hb.cell (World.block_lt_of_cell? _ _ HPC.out.2.1)).trans HPC.out.2.1, (hb.cell (World.block_lt_of_cell? _ _ HPC.out.2.2.1)).trans HPC.out.2.2.1, (hb.cell (World.block_lt_of_cell? _ _ HPC.out.2.2.2)).trans HPC.out.2.2.2⟩⟩; clear HPC; have HPC := q_HPC; clear q_HPC; have q_HB := Aside0.mk (below_step HB.out hb); have q_HO := Aside0.mk (Kd.R_below HO.out hb); have q_HD := Aside0.mk (Kd.R_below HD.out hb); clear HB HO HD; have HB := q_HB; have HO := q_HO; have HD := q_HD; clear q_HB q_HO q_HD; clear hb p0 p1 p2 p3 k0 k1 k2 k3)
                    clear f1 f2 c1
                    have e1 := E1.out
                    go_wp2_with fail
                    go_roundg (out.length - (j + 1))
                    case measure => exact Nat.lt_of_lt_of_le M2.out hgj
                    case rel => exact ⟨j + 1, false, by first | rfl | (simp; done), by first | rfl | rw [e1], hltj, Nat.le_refl _, HK2, HPC, HO, HD, HB⟩
              · have ej : j = out.length := by omega
                subst ej
                have z1_ : ((out.length : Int) < (out.length : Int)) = False := eq_false (by omega)
                have hK := HK0.out
                rw [List.drop_length, kpI] at hK
                obtain rfl := Option.some.inj hK
                clear hK HK0
                go_wp2_with fail
                go_meet
                case rel => exact ⟨rfl, HPC, HO, HD, HB⟩
          case rest =>
            clear HK0 HPC HO HD HB
            obtain ⟨rfl, HPC, HO, HD, HB⟩ := hcut
            have e0 := E0.out
            cases b0 with
            | false =>
              have HX3 := Aside0.mk (show keptI (wrap64 (a1 * a1)) (od.drop (i + 1)) out = some r from HX2.out)
              clear HX2
              go_wp2_with fail
              go_roundg (od.length - (i + 1))
              case measure => exact Nat.lt_of_lt_of_le M1.out hg
              case rel => exact ⟨i + 1, out, by first | rfl | rw [e0], hlt, Nat.le_refl _, by have := HOL.out; omega, HX3, HO, HD, HB⟩
            | true =>
              have HX3 := Aside0.mk (show keptI (wrap64 (a1 * a1)) (od.drop (i + 1)) (out ++ [⟨x0, ⟨x1, x2⟩, x3⟩]) = some r from HX2.out)
              clear HX2
              obtain ⟨p0, p1, p2, p3⟩ := HPC.out
              go_wp2_with (first | ((with_reducible refine gate_dst (N := 50) rfl ?_); (try (refine gate_guard (by rfl) ?_; dsimp only)); refine Kd.R_lit k77 _ 77 ?hg (N := 50) ?hd (xs := ([(⟨x0, ⟨x1, x2⟩, x3⟩ : S77)] : List S77)) (inner := [.int .i64 x0, .int .i64 x1, .int .i64 x2, .int .i64 x3]) (ok := fun _ => True) (okp := fun _ => True) ?hr ?hp (fun _ hk => hk) trivial (Below.refl _ _) (Nat.le_refl _) (by simp) ?_; (case hd => rfl); (case hg => rfl); (case hr => first | (go_simp; done) | (go_simp; rfl)); (case hp => exact (Reps.c4 (show Kd.M k77 _ _ _ (⟨x0, ⟨x1, x2⟩, x3⟩ : S77) [.int .i64 x0, .int .i64 x1, .int .i64 x2, .int .i64 x3] from k77_mkM _ _ _ _) (Reps.none _ _))); intro vN wN ho hb hg_ hnew_; clear hg_ hnew_; clear p0 p1 p2 p3; have q_HB := Aside0.mk (below_step HB.out hb); have q_HO := Aside0.mk (Kd.R_below HO.out hb); have q_HD := Aside0.mk (Kd.R_below HD.out hb); clear HB HO HD; have HB := q_HB; have HO := q_HO; have HD := q_HD; clear q_HB q_HO q_HD; have HN := Aside0.mk ho; clear ho hb; obtain ⟨An, cn, en⟩ := Kd.R_slice HN.out; subst en) | ((with_reducible refine gate_builtin (b := .append) (xs := #[.tmp 48, .tmp 50]) rfl ?_); (try (refine gate_guard (by rfl) ?_; dsimp only)); at_builtin; refine Kd.R_append_rows k77 (w0 := w) w.heap.size rfl (.tmp 48) (.tmp 50) 70 77 (.agg #[(.int .i64 0), (.int .i64 0), (.int .i64 0), (.int .i64 0)]) 32 rfl Tryz.underlying70 info77 rfl (by decide) (by omega) (.slice Ao out.length co) out [(⟨x0, ⟨x1, x2⟩, x3⟩ : S77)] _ _ _ (fun _ => True) (fun _ => False) rfl rfl HO.out (Kd.R_reads' HN.out).2.2 (fun _ _ h => h) (fun _ h => h.elim) (fun _ _ => trivial) HB.out (below_size HB.out) (by have := LO.out; simp; omega) ?_; intro vA wA ho hb hg hat; have q_HD := Aside0.mk (Kd.R_after HD.out hg hat); have q_HB := Aside0.mk hb; have q_HO := Aside0.mk ho; clear HO HB HN HD  ho hb hg hat; have HB := q_HB; have HO := q_HO; have HD := q_HD; clear q_HB q_HO q_HD))
              go_roundg (od.length - (i + 1))
              case measure => exact Nat.lt_of_lt_of_le M1.out hg
              case rel => exact ⟨i + 1, out ++ [⟨x0, ⟨x1, x2⟩, x3⟩], by first | rfl | rw [e0], hlt, Nat.le_refl _, by have := HOL.out; simp; omega, HX3, HO, HD, HB⟩
        · have ei : i = od.length := by omega
          subst ei
          have q1 : ((od.length : Int) < (od.length : Int)) = False := eq_false (by omega)
          have hX := HX.out
          rw [List.drop_length, keptI] at hX
          obtain rfl := Option.some.inj hX
          clear hX HX
          go_wp2_with fail
          go_ret
          exact ⟨_, rfl, HO.out, HB.out⟩
set_option maxHeartbeats 8000000 in
set_option maxRecDepth 100000 in
theorem impl_ThinPlaces.calls (k : Nat) (A0 : Option Addr) (c0 : Nat) (l0 : List (S77)) (a1 : Int) (r : List Int) (w : World) (hr0 : Kd.C k77 w A0 l0.length l0) (hc0 : l0.length ≤ c0) (h : impl_ThinPlaces.f k l0 a1 = some r) :
  Calls Tryz.prog 69 #[.slice A0 l0.length c0, .int .i64 a1] w fun e w' => ∃ v0_ : Value, e = .returned (v0_) ∧ Kd.R (Kd.int .i64) 3 w' w.heap.size (fun _ => True) v0_ r ∧ Below w.heap.size w w' := by
 have hu77 := Tryz.underlying77; have HR0 := Aside0.mk hr0; have HC0 := Aside0.mk hc0; clear hr0 hc0; have HB := Aside0.mk (Below.refl w.heap.size w); have H : ((impl_keptPlaces.f k l0 a1).bind fun t480 => (impl_ThinPlaces.l0 k (([] : List Int)) t480 (t480.length : Int) 0)) = some r := h; clear h; obtain ⟨y477, hy477⟩ : ∃ y_ : List Int, y_ = (([] : List Int)) := ⟨_, rfl⟩
 replace H : ((impl_keptPlaces.f k l0 a1).bind fun t480 => (impl_ThinPlaces.l0 k y477 t480 (t480.length : Int) 0)) = some r := by first | (rw [hy477]; with_reducible exact H) | (have H2_ := (Option.bind_some _ _).symm.trans H; rw [hy477]; with_reducible exact H2_) | (have H2_ := (Option.bind_some _ _).symm.trans H; with_reducible exact H2_) | with_reducible exact H | (rw [hy477]; exact H) | exact H
 have Ny477 := Aside0.mk hy477; clear hy477; replace H := Option.bind_eq_some_iff.mp H; obtain ⟨t480, A30, H⟩ := H; have A3 := Aside0.mk A30; clear A30; have H' := Aside0.mk H; clear H
 go_enter Tryz.func69, Tryz.ntmps69; go_wp2_with (first | ((with_reducible refine gate_dst (N := 8) rfl ?_); refine Kd.R_lit (Kd.int .i64) _ 3 ?hg (N := 8) ?hd (xs := ([] : List Int)) (inner := []) (ok := fun _ => True) (okp := fun _ => True) ?hr ?hp (fun _ hk => hk) trivial (Below.refl _ _) (Nat.le_refl _) (by simp) ?_; (case hd => rfl); (case hg => rfl); (case hr => first | (go_simp; done) | (go_simp; rfl)); (case hp => exact (Reps.none _ _)); intro v478 w4 ho5 hb hg_ hnew_; clear hg_ hnew_; (first | rw [← Ny477.out] at ho5 | (simp only [Int.reduceToNat] at ho5; rw [← Ny477.out] at ho5)); have HO479 := Aside0.mk (Kd.R_lower ho5 (below_size bz)); replace HB := Aside0.mk (below_step bz hb); clear hb ho5) | ((with_reducible refine gt (some 11) rfl ?_); refine gc Tryz.func115 (impl_keptPlaces.calls k _ _ l0 a1 t480 _ cz0 HC0.out A3.out) ?_; rintro e w6 ⟨v481, rfl, ho0, hb⟩; refine ⟨_, rfl, ?_⟩; replace HO479 := Aside0.mk (rbz HO479 hb); have HO482 := Aside0.mk (Kd.R_lower ho0 (below_size bz)); replace HB := Aside0.mk (below_step bz hb); (try clear hb); (try clear ho0); obtain ⟨Ao7, co7, eo7⟩ := Kd.R_slice HO482.out; subst eo7))
 go_loopg [5, 13] k (fun kq v5 v13 w' => ∃ (x5_1 : List Int) (x13_1 : Int), v13 = .int .i64 x13_1 ∧ Aside0 (impl_ThinPlaces.l0 kq x5_1 t480 (t480.length : Int) x13_1 = some r) ∧ Aside0 (kq ≤ k) ∧ Aside0 (Kd.R (Kd.int .i64) 3 w' w.heap.size (fun _ => True) v5 x5_1) ∧ Aside0 (Kd.R k77 77 w' w.heap.size (fun _ => True) (.slice Ao7 t480.length co7) t480) ∧ Aside0 (Below w.heap.size w w'))
 case atStart => exact ⟨(y477), (0), rz, H', ⟨Nat.le_refl _⟩, ⟨hr HO479.out⟩, ⟨hr HO482.out⟩, ⟨bz⟩⟩
 case round =>
  clear H'; (try clear c1); (try clear p2); (try clear c6); obtain ⟨x5_1, x13_1, rfl, HA, HK1, HO_5, HO_11, HB⟩ := hrel
  cases gk with
  | zero => exact absurd HA.out (by simp [impl_ThinPlaces.l0])
  | succ k1 =>
   have H := HA.out; clear HA; simp only [impl_ThinPlaces.l0] at H
   by_cases c8 : x13_1 < (t480.length : Int)
   ·rw [if_pos c8] at H; have c8b0 := decide_eq_true c8; clear c8
    by_cases c9 : 0 ≤ x13_1
    ·rw [if_pos c9] at H; have c9b0 := decide_eq_true c9; clear c9
     by_cases c10 : x13_1 < (t480.length : Int)
     ·rw [if_pos c10] at H; have c10b0 := decide_eq_true c10; clear c10
      by_cases c11 : x5_1.length < 17592186044416
      ·rw [if_pos c11] at H; have LMc11 := Aside0.mk c11; clear c11; obtain ⟨y485, hy485⟩ : ∃ y_ : List Int, y_ = (x5_1 ++ [(rd_T77 t480 x13_1).f0]) := ⟨_, rfl⟩
       replace H : (impl_ThinPlaces.l0 k1 y485 t480 (t480.length : Int) (wrap64 (x13_1 + 1))) = some r := by first | (rw [hy485]; with_reducible exact H) | (have H2_ := (Option.bind_some _ _).symm.trans H; rw [hy485]; with_reducible exact H2_) | (have H2_ := (Option.bind_some _ _).symm.trans H; with_reducible exact H2_) | with_reducible exact H | (rw [hy485]; exact H) | exact H
       have Ny485 := Aside0.mk hy485; clear hy485; have H' := Aside0.mk H; clear H; have p483 : 0 ≤ (x13_1 : Int) := of_decide_eq_true az; have q483 : x13_1 < (t480.length : Int) := of_decide_eq_true az; obtain ⟨ad483, e483, hx483_0, hx483_1, hx483_2, hx483_3⟩ := at_T77 (Kd.R_reads' HO_11.out).2.2 x13_1 p483 q483
       cases e483
       replace p483 := eq_true p483; replace q483 := eq_true q483; go_wp2_with (first | ((with_reducible refine gt (some 7) rfl ?_); refine bx #[.int .i64 0, .int .i64 0, .int .i64 0, .int .i64 0] 77 ?_; intro gb484 hg w12 hbox hb; replace HO_5 := Aside0.mk (rbz HO_5 hb); replace HO_11 := Aside0.mk (Kd.R_below (Kd.R_elderB (hr HO_11.out) gb484 (Nat.le_of_eq hg.symm)) hb); have BK484 := Aside0.mk (hbox); have GW484 := Aside0.mk (gez HB hg); have GE484 := Aside0.mk (gez HB hg); replace HB := Aside0.mk (below_step bz hb); clear hb hbox hg; obtain ⟨hcz13_0, hcz13_1, hcz13_2, hcz13_3, hfz13_0, hfz13_1, hfz13_2, hfz13_3⟩ := cells4 BK484) | ((with_reducible refine gate_builtin (b := .append) (xs := #[.tmp 17, .tmp 20]) rfl ?_); at_builtin; refine Kd.R_append (Kd.int .i64) (w0 := w) w.heap.size rfl (.tmp 17) (.tmp 20) 23 3 (.int .i64 0) 8 rfl Tryz.underlying23 info3 rfl (by decide) (by omega) u5 x5_1 ((rd_T77 t480 x13_1).f0) [.int .i64 ((rd_T77 t480 x13_1).f0)] (fun _ => True) (fun _ => False) rfl (by first | (go_simp; done) | (go_simp; rfl)) ?aP (fun _ hk => hk.elim) ?aF ?aO ?aB ?aS ?aL ?_; (case aP => exact rfl); (case aB => exact bzs); (case aF => exact (fun _ _ => trivial)); (case aO => exact (hr (Kd.R_mono (Kd.R_far (p := ⟨gb484, 3, none⟩) (Kd.R_far (p := ⟨gb484, 2, none⟩) (Kd.R_far (p := ⟨gb484, 1, none⟩) (Kd.R_far (p := ⟨gb484, 0, none⟩) (Kd.R_types HO_5.out BK484.out (by decide)) (fun _ hk => hk.2) (.int .i64 ((rd_T77 t480 x13_1).f0))) (fun _ hk => hk.2) (.int .i64 ((rd_T77 t480 x13_1).f1.f0))) (fun _ hk => hk.2) (.int .i64 ((rd_T77 t480 x13_1).f1.f1))) (fun _ hk => hk.2) (.int .i64 ((rd_T77 t480 x13_1).f2))) (fun _ hk => trivial)))); (case aS => exact (below_size bzs)); (case aL => have := LMc11.out; omega); intro v486 w14 ho hb hg hat; rw [← Ny485.out] at ho; have n0_ := Aside0.mk (Kd.R_over' (hr (Kd.R_mono (Kd.R_far (p := ⟨gb484, 3, none⟩) (Kd.R_far (p := ⟨gb484, 2, none⟩) (Kd.R_far (p := ⟨gb484, 1, none⟩) (Kd.R_far (p := ⟨gb484, 0, none⟩) (Kd.R_mono HO_11.out (fun k_ hk => (⟨hk, hk.2⟩ : _ ∧ k_ ≠ gb484))) (fun _ hk => hk.2) (.int .i64 ((rd_T77 t480 x13_1).f0))) (fun _ hk => hk.2) (.int .i64 ((rd_T77 t480 x13_1).f1.f0))) (fun _ hk => hk.2) (.int .i64 ((rd_T77 t480 x13_1).f1.f1))) (fun _ hk => hk.2) (.int .i64 ((rd_T77 t480 x13_1).f2))) (fun _ h_ => h_.1))) (Kd.R_typed (hr (Kd.R_mono (Kd.R_far (p := ⟨gb484, 3, none⟩) (Kd.R_far (p := ⟨gb484, 2, none⟩) (Kd.R_far (p := ⟨gb484, 1, none⟩) (Kd.R_far (p := ⟨gb484, 0, none⟩) (Kd.R_types HO_5.out BK484.out (by decide)) (fun _ hk => hk.2) (.int .i64 ((rd_T77 t480 x13_1).f0))) (fun _ hk => hk.2) (.int .i64 ((rd_T77 t480 x13_1).f1.f0))) (fun _ hk => hk.2) (.int .i64 ((rd_T77 t480 x13_1).f1.f1))) (fun _ hk => hk.2) (.int .i64 ((rd_T77 t480 x13_1).f2))) (fun _ h_ => h_.1)))) (by decide) hg); have n1_ := Aside0.mk (blk_grown (g := gb484) (o := .cells #[.int .i64 ((rd_T77 t480 x13_1).f0), .int .i64 ((rd_T77 t480 x13_1).f1.f0), .int .i64 ((rd_T77 t480 x13_1).f1.f1), .int .i64 ((rd_T77 t480 x13_1).f2)] 77 (0, 0)) (by (with_reducible repeat (first | refine blk_drewN ?_ _ | refine blk_drew ?_ | refine blk_alloc ?_ _)); refine blk_put (cs := #[.int .i64 ((rd_T77 t480 x13_1).f0), .int .i64 ((rd_T77 t480 x13_1).f1.f0), .int .i64 ((rd_T77 t480 x13_1).f1.f1), .int .i64 0]) ?_ 3 _ rfl; (with_reducible repeat (first | refine blk_drewN ?_ _ | refine blk_drew ?_ | refine blk_alloc ?_ _)); refine blk_put (cs := #[.int .i64 ((rd_T77 t480 x13_1).f0), .int .i64 ((rd_T77 t480 x13_1).f1.f0), .int .i64 0, .int .i64 0]) ?_ 2 _ rfl; (with_reducible repeat (first | refine blk_drewN ?_ _ | refine blk_drew ?_ | refine blk_alloc ?_ _)); refine blk_put (cs := #[.int .i64 ((rd_T77 t480 x13_1).f0), .int .i64 0, .int .i64 0, .int .i64 0]) ?_ 1 _ rfl; (with_reducible repeat (first | refine blk_drewN ?_ _ | refine blk_drew ?_ | refine blk_alloc ?_ _)); refine blk_put (cs := #[.int .i64 0, .int .i64 0, .int .i64 0, .int .i64 0]) ?_ 0 _ rfl; (with_reducible repeat (first | refine blk_drewN ?_ _ | refine blk_drew ?_ | refine blk_alloc ?_ _)); exact BK484.out) hg (Kd.R_ne HO_5.out BK484.out (by decide))); have n2_ := Aside0.mk (hb); have n3_ := Aside0.mk (ho); clear HO_11; clear BK484; clear HB; clear HO_5; have HO_11 := n0_; have BK484 := n1_; have HB := n2_; have HO487 := n3_; clear n0_ n1_ n2_ n3_; clear ho hb hg hat))
       go_roundg k1
       case measure => have := HK1.out; omega
       case rel => exact ⟨(y485), (wrap64 (x13_1 + 1)), rz, H', ⟨by have := HK1.out; omega⟩, ⟨hr HO487.out⟩, ⟨hr (Kd.R_mono HO_11.out (fun _ hk => trivial))⟩, ⟨bzs⟩⟩
      ·rw [if_neg c11] at H
       exact absurd H (by simp)
     ·rw [if_neg c10] at H
      exact absurd H (by simp)
    ·rw [if_neg c9] at H
     exact absurd H (by simp)
   ·rw [if_neg c8] at H; have c8b0 := decide_eq_false c8; clear c8; replace H := Option.bind_eq_some_iff.mp H; obtain ⟨t488, A150, H⟩ := H; have A15 := Aside0.mk A150; clear A150; obtain rfl := Option.some.inj H; obtain ⟨Ao16, co16, eo16⟩ := Kd.R_slice HO_5.out; subst eo16; go_wp2_with (first | ((with_reducible refine gt (some 24) rfl ?_); refine gc Tryz.func71 (slices_Sort_int_int.calls (fun k_ => some k_ = (.slice Ao16 x5_1.length co16 : Value).ownBlock) (.slice Ao16 x5_1.length co16) x5_1 t488 w _ (by repeat (first | (with_reducible first | exact HB.out | apply below_alloc | apply pw_below_drewN | apply below_drew1) | exact HB.out)) (Kd.R_tight rfl HO_5.out) A15.out) ?_; rintro e w17 ⟨rfl, hy0, hb, hkp⟩; refine ⟨_, rfl, ?_⟩; replace HO_11 := Aside0.mk (Kd.R_mono (ok' := fun k_ => True) (Kd.R_keptB ((Kd.R_apart' HO_11.out (Kd.R_typed HO_5.out) (by decide))) hkp (fun k_ hk_ hs_ => absurd hs_ (by first | exact hk_.2 | exact hk_.1.2 | exact hk_.1.1 | exact hk_.1 | exact hk_.2 | exact hk_.1.1.2 | exact hk_))) (fun k_ hk_ => trivial)); replace HO_5 := Aside0.mk (Kd.R_reok rfl hy0 (fun k_ e_ => HO_5.out.1 k_ e_)); replace HB := Aside0.mk (hb); (try clear hb); (try clear hkp); (try clear hy0))); go_ret
    exact ⟨_, ez, hr HO_5.out, bz⟩
def impl_PlacesOf.Fs : List (Spc env) := [impl_IsSource.spec]
def impl_PlacesOf.fin : St eΓ → Option (HL eΓ [.l 77 (.st .s77)]) := finR env Tryz.f70.results.toList [.l 77 (.st .s77)]
def impl_PlacesOf.cut : Nat → Option (List (Lv SC)) := lk [(5, [⟨3, none, false⟩, ⟨11, none, false⟩, ⟨12, none, false⟩, ⟨13, none, false⟩])]
def impl_PlacesOf.ret (r0 : List S77) : Option (HL eΓ [.l 77 (.st .s77)]) := some (r0, ())
def impl_PlacesOf.p5 (k : Nat) (x12 : Int) (x13 : Int) (x3 : List S77) (x11 : List S59) : Option (HL eΓ [.l 77 (.st .s77)]) := evM env impl_PlacesOf.Fs Tryz.f70.ntmps impl_PlacesOf.fin impl_PlacesOf.cut k [.code (sub_ [1, 1, 1, 0, 1, 0, 0, 0] (bodyOf Tryz.f70)), .code (sub_ [1, 1, 1, 0, 1, 0, 0, 1] (bodyOf Tryz.f70)), .lp (sub_ [1, 1, 1, 0, 1, 0, 0] (bodyOf Tryz.f70)), .blk 0, .code (sub_ [1, 1, 1, 1] (bodyOf Tryz.f70))] (mkSt [(3, .c (.sl 0)), (11, .c (.sl 1)), (12, .c (.v (.int .i64 x12))), (13, .c (.v (.int .i64 x13)))] [.row .own 77 (.st .s77) x3, .row .ro 59 (.st .s59) x11])
theorem impl_PlacesOf.e5 (k : Nat) (x12 : Int) (x13 : Int) (x3 : List S77) (x11 : List S59) : impl_PlacesOf.p5 (k + 1) x12 x13 x3 x11 = if x13 < x12 then (if 0 ≤ x13 then (if x13 < (x11.length : Int) then (if ((rd_T59 x11 x13).f1) = 1 then (if 0 < (((rd_T59 x11 x13).f4).length : Int) then (if (x3.length + 1) * 32 ≤ 140737488355328 then (impl_PlacesOf.p5 k x12 (wrap64 (x13 + 1)) (x3 ++ [(⟨(rd_T59 x11 x13).f0, (⟨(rd_T75 ((rd_T59 x11 x13).f4) 0).f0, (rd_T75 ((rd_T59 x11 x13).f4) 0).f1⟩ : S75), (rd_T59 x11 x13).f2⟩ : S77)]) x11) else none) else none) else (impl_PlacesOf.p5 k x12 (wrap64 (x13 + 1)) x3 x11)) else none) else none) else (impl_PlacesOf.ret x3) := by kernel_rfl
def impl_PlacesOf.run (k : Nat) (h : HL eΓ [.l 59 (.st .s59)]) : Option (HL eΓ [.l 77 (.st .s77)]) := evF env impl_PlacesOf.Fs Tryz.f70 impl_PlacesOf.cut [.l 59 (.st .s59)] [.l 77 (.st .s77)] k h
theorem impl_PlacesOf.ef (k : Nat) (h0 : List S59) : impl_PlacesOf.run k (h0, ()) = impl_IsSource.ap k h0 fun r1 => if (!r1) = true then (impl_PlacesOf.ret ([] : List S77)) else (impl_PlacesOf.p5 k (h0.length : Int) 0 ([] : List S77) h0) := by kernel_rfl
def impl_PlacesOf.toH (t : (List (S77))) : HL eΓ [.l 77 (.st .s77)] := (t, ())
def impl_PlacesOf.spec : Spc env := ⟨70, [.l 59 (.st .s59)], [.l 77 (.st .s77)], impl_PlacesOf.run⟩
theorem impl_PlacesOf.snd : Snd env impl_PlacesOf.spec := evF_snd env_ok (sndC impl_IsSource.snd (sndN))
attribute [local irreducible] impl_PlacesOf.run
theorem impl_PlacesOf.rt (a0 : List S77) : impl_PlacesOf.ret a0 = some (impl_PlacesOf.toH (a0)) := rfl
theorem impl_PlacesOf.br (n : Nat) : (∀ K, n ≤ K → ∀ (x12 : Int) (x13 : Int) (x3 : List S77) (x11 : List S59) t, impl_PlacesOf.l0 n x3 x11 x12 x13 = some t → impl_PlacesOf.p5 K x12 x13 x3 x11 = some (impl_PlacesOf.toH t)) := by
  induction n using Nat.strongRecOn with
  | _ n ih =>
  intro K hK x12 x13 x3 x11 t h
  all_goals (rcases n with _ | k)
  all_goals (try (exact nos h))
  all_goals (obtain ⟨K, rfl⟩ : ∃ q, K = q + 1 := ⟨K - 1, by omega⟩)
  all_goals (first | rw [impl_PlacesOf.e5])
  all_goals (simp only [impl_PlacesOf.l0] at h)
  repeat' (with_reducible first
   | exact nos h
   | (cases some_inj h; exact impl_PlacesOf.rt _)
   | exact (ih _ (by omega)) _ (by omega) _ _ _ _ _ h
   | (simp only [Option.bind_some] at h)
   | (refine ite_by h ?_ ?_ <;> (intro hc h; (try simp only [nrm] at hc)))
   | refine itT ?_
   | refine itF ?_
   | (refine bind_by h (fun t ht h => ?_); refine (impl_IsSource.ap_of (impl_IsSource.go ht _ (by omega))).trans ?_; (try dsimp only at h ⊢))
   | (simp only [nr2] at h ⊢)
   | (exfalso; omega))
theorem impl_PlacesOf.go {k : Nat} {l0 : List S59} {t} (h : impl_PlacesOf.f k l0 = some t) (K : Nat) (hK : k ≤ K) : impl_PlacesOf.run K (l0, ()) = some (impl_PlacesOf.toH t) := by
  rw [impl_PlacesOf.ef]
  (try dsimp only)
  unfold impl_PlacesOf.f at h
  repeat' (with_reducible first
   | exact nos h
   | (cases some_inj h; exact impl_PlacesOf.rt _)
   | exact (impl_PlacesOf.br _) _ (by omega) _ _ _ _ _ h
   | (simp only [Option.bind_some] at h)
   | (refine ite_by h ?_ ?_ <;> (intro hc h; (try simp only [nrm] at hc)))
   | refine itT ?_
   | refine itF ?_
   | (refine bind_by h (fun t ht h => ?_); refine (impl_IsSource.ap_of (impl_IsSource.go ht _ (by omega))).trans ?_; (try dsimp only at h ⊢))
   | (simp only [nr2] at h ⊢)
   | (exfalso; omega))
theorem impl_PlacesOf.calls (k : Nat) (A0 : Option Addr) (c0 : Nat) (l0 : List (S59)) (r : List (S77)) (w : World) (hr0 : Kd.C k59 w A0 l0.length l0) (hc0 : l0.length ≤ c0) (h : impl_PlacesOf.f k l0 = some r) :
  Calls Tryz.prog 70 #[.slice A0 l0.length c0] w fun e w' => ∃ v0_ : Value, e = .returned (v0_) ∧ Kd.R k77 77 w' w.heap.size (fun _ => True) v0_ r ∧ Below w.heap.size w w' := by
  refine (impl_PlacesOf.snd.calls _ _ _ (impl_PlacesOf.go h k (Nat.le_refl k)) w [.slice A0 l0.length c0] ⟨⟨_, _, rfl, hc0, hr0⟩, trivial⟩).mono ?_
  rintro e w' ⟨v, rfl, hB, vs, oks, rfl, hR, _⟩
  obtain ⟨x0_, vs, o0_, oks, rfl, rfl, m0_, hR⟩ := rmsC hR
  obtain rfl := rmsN hR
  obtain ⟨x0_v, x0_e, x0_R⟩ := m0_
  obtain rfl := List.singleton_inj.1 x0_e
  exact ⟨_, rfl, Kd.R_mono x0_R (fun _ _ => trivial), hB⟩
set_option maxHeartbeats 8000000 in
set_option maxRecDepth 100000 in
theorem impl_ShownIds.calls (k : Nat) (A0 : Option Addr) (c0 : Nat) (l0 : List (S59)) (a1_0 : Int) (a1_1 : Int) (a1_2 : Int) (r : List Int) (w : World) (hr0 : Kd.C k59 w A0 l0.length l0) (hc0 : l0.length ≤ c0) (h : impl_ShownIds.f k l0 a1_0 a1_1 a1_2 = some r) :
  Calls Tryz.prog 29 #[.slice A0 l0.length c0, .agg #[.int .i64 a1_0, .int .i64 a1_1, .int .i64 a1_2]] w fun e w' => ∃ v0_ : Value, e = .returned (v0_) ∧ Kd.R (Kd.int .i64) 3 w' w.heap.size (fun _ => True) v0_ r ∧ Below w.heap.size w w' := by
 have hu46 := Tryz.underlying46; have hu59 := Tryz.underlying59; have HR0 := Aside0.mk hr0; have HC0 := Aside0.mk hc0; clear hr0 hc0; have HB := Aside0.mk (Below.refl w.heap.size w); have H : ((some (([] : List Int) : List Int)).bind fun y500 => ((impl_IsSource.f k l0).bind fun t503 => (if t503 = true then ((impl_IsLevel.f a1_0 a1_1 a1_2).bind fun t504 => (impl_ShownIds.j0 k l0 y500 (!t504) a1_0 a1_1 a1_2)) else (impl_ShownIds.j0 k l0 y500 true a1_0 a1_1 a1_2)))) = some r := h; clear h; obtain ⟨y500, hy500⟩ : ∃ y_ : List Int, y_ = (([] : List Int)) := ⟨_, rfl⟩
 replace H : ((impl_IsSource.f k l0).bind fun t503 => (if t503 = true then ((impl_IsLevel.f a1_0 a1_1 a1_2).bind fun t504 => (impl_ShownIds.j0 k l0 y500 (!t504) a1_0 a1_1 a1_2)) else (impl_ShownIds.j0 k l0 y500 true a1_0 a1_1 a1_2))) = some r := by first | (rw [hy500]; with_reducible exact H) | (have H2_ := (Option.bind_some _ _).symm.trans H; rw [hy500]; with_reducible exact H2_) | (have H2_ := (Option.bind_some _ _).symm.trans H; with_reducible exact H2_) | with_reducible exact H | (rw [hy500]; exact H) | exact H
 have Ny500 := Aside0.mk hy500; clear hy500; have HC3 := Aside0.mk H; clear H
 go_enter Tryz.func29, Tryz.ntmps29
 go_upto_region 2 with (first | ((with_reducible refine gt (some 3) rfl ?_); refine bx #[.int .i64 a1_0, .int .i64 a1_1, .int .i64 a1_2] 46 ?_; intro gb499 hg w4 hbox hb; have BK499 := Aside0.mk (hbox); have GW499 := Aside0.mk (gez HB hg); have GE499 := Aside0.mk (gez HB hg); replace HB := Aside0.mk (below_step bz hb); clear hb hbox hg) | ((with_reducible refine gate_dst (N := 9) rfl ?_); refine Kd.R_lit (Kd.int .i64) _ 3 ?hg (N := 9) ?hd (xs := ([] : List Int)) (inner := []) (ok := fun _ => True) (okp := fun _ => True) ?hr ?hp (fun _ hk => hk) trivial (Below.refl _ _) (Nat.le_refl _) (by simp) ?_; (case hd => rfl); (case hg => rfl); (case hr => first | (go_simp; done) | (go_simp; rfl)); (case hp => exact (Reps.none _ _)); intro v501 w5 ho6 hb hg_ hnew_; clear hg_ hnew_; (first | rw [← Ny500.out] at ho6 | (simp only [Int.reduceToNat] at ho6; rw [← Ny500.out] at ho6)); have HO502 := Aside0.mk (Kd.R_lower ho6 (below_size bzs)); replace BK499 := Aside0.mk (bbz BK499 hb); replace HB := Aside0.mk (below_step bzs hb); clear hb ho6))
 (try simp only [Act.put, List.setIfInBounds_toArray, List.set_cons_zero, List.set_cons_succ])
 go_cut [17] (fun v17 wc => ∃ (kq : Nat) (x17_2 : Bool), v17 = .bool x17_2 ∧ Aside0 (impl_ShownIds.j0 kq l0 y500 x17_2 a1_0 a1_1 a1_2 = some r) ∧ Aside0 (kq ≤ k) ∧ Aside0 (Kd.R (Kd.int .i64) 3 wc w.heap.size (fun _ => True) v501 y500) ∧ Aside0 (wc.heap[gb499]? = some (.cells #[.int .i64 a1_0, .int .i64 a1_1, .int .i64 a1_2] 46 (0, 0))) ∧ Aside0 (Below w.heap.size w wc))
 case first =>
  have H := HC3.out; clear HC3; replace H := Option.bind_eq_some_iff.mp H; obtain ⟨t503, A70, H⟩ := H; have A7 := Aside0.mk A70; clear A70
  by_cases c8 : t503 = true
  ·subst c8; replace H := ift H; replace H := Option.bind_eq_some_iff.mp H; obtain ⟨t504, A90, H⟩ := H; have A9 := Aside0.mk A90; clear A90; have H' := Aside0.mk H; clear H; go_wp2_with (first | ((with_reducible refine gt (some 11) rfl ?_); refine gc Tryz.func66 (impl_IsSource.calls k _ _ l0 true _ cz0 HC0.out A7.out) ?_; rintro e w10 ⟨rfl, hb⟩; refine ⟨_, rfl, ?_⟩; replace HO502 := Aside0.mk (rbz HO502 hb); replace BK499 := Aside0.mk (bbz BK499 hb); replace HB := Aside0.mk (below_step bzs hb); (try clear hb); obtain ⟨hcz11_0, hcz11_1, hcz11_2, hfz11_0, hfz11_1, hfz11_2⟩ := cells3 BK499) | (go_at_call 67; (with_reducible refine (impl_IsLevel.calls a1_0 a1_1 a1_2 t504 _ A9.out).mono ?_); rintro e w12 ⟨rfl, hb⟩; replace HO502 := Aside0.mk (rbz HO502 hb); replace BK499 := Aside0.mk (bbz BK499 hb); replace HB := Aside0.mk (below_step bzs hb); (try clear hb)))
   go_meet
   case rel => exact ⟨_, (!t504), rz, H', ⟨qz⟩, ⟨hr HO502.out⟩, ⟨kz BK499⟩, ⟨bzs⟩⟩
  ·replace c8 := Bool.eq_false_iff.mpr c8; subst c8; replace H := iff_ H; have H' := Aside0.mk H; clear H; go_wp2_with (first | ((with_reducible refine gt (some 11) rfl ?_); refine gc Tryz.func66 (impl_IsSource.calls k _ _ l0 false _ cz0 HC0.out A7.out) ?_; rintro e w13 ⟨rfl, hb⟩; refine ⟨_, rfl, ?_⟩; replace HO502 := Aside0.mk (rbz HO502 hb); replace BK499 := Aside0.mk (bbz BK499 hb); replace HB := Aside0.mk (below_step bzs hb); (try clear hb)))
   go_meet
   case rel => exact ⟨_, (true), rz, H', ⟨qz⟩, ⟨hr HO502.out⟩, ⟨kz BK499⟩, ⟨bzs⟩⟩
 case rest =>
  clear HC3; (try clear c2); (try clear p2); (try clear c6); (try clear c8); (try clear hcz11_0); (try clear hcz11_1); (try clear hcz11_2); (try clear hfz11_0); (try clear hfz11_1); (try clear hfz11_2); obtain ⟨kq, x17_2, rfl, HA, HJ2, HO_5, BK499, HB⟩ := hcut
  cases kq with
  | zero => exact absurd HA.out (by simp [impl_ShownIds.j0])
  | succ kj2 =>
   have H := HA.out; clear HA; simp only [impl_ShownIds.j0] at H
   by_cases c14 : x17_2 = true
   ·subst c14; replace H := ift H; obtain rfl := Option.some.inj H; go_wp2; go_ret
    exact ⟨_, ez, hr HO_5.out, bzs⟩
   ·replace c14 := Bool.eq_false_iff.mpr c14; subst c14; replace H := iff_ H; replace H := Option.bind_eq_some_iff.mp H; obtain ⟨t505, A150, H⟩ := H; have A15 := Aside0.mk A150; clear A150; replace H := Option.bind_eq_some_iff.mp H; obtain ⟨t508, A160, H⟩ := H; have A16 := Aside0.mk A160; clear A160; replace H := Option.bind_eq_some_iff.mp H; obtain ⟨t511, A170, H⟩ := H; have A17 := Aside0.mk A170; clear A170; have H' := Aside0.mk H; clear H; obtain ⟨hcz18_0, hcz18_1, hcz18_2, hfz18_0, hfz18_1, hfz18_2⟩ := cells3 BK499; (try go_wp2_with (first | ((with_reducible refine gt (some 22) rfl ?_); refine gc Tryz.func68 (impl_ranked.calls kj2 (fun k_ => k_ < w.heap.size) _ _ l0 a1_0 t505 _ (Kd.V_mk HC0.out (Kd.F_below (Kd.C_F k59_heap HR0.out) bzs)) A15.out) ?_; rintro e w19 ⟨v506, rfl, ho0, hb⟩; refine ⟨_, rfl, ?_⟩; have HO507 := Aside0.mk (Kd.N_lower (Kd.N_mono (ok' := fun k_ => some k_ ≠ (v501 : Value).ownBlock ∧ k_ ≠ gb499) ho0 (fun k_ hk_ => ⟨Or.elim hk_ (fun hs_ => fun e_ => Nat.not_le.2 hs_ (Kd.R_base HO_5.out k_ e_.symm)) (fun hn_ => (Kd.fresh' (Kd.R_lt (hr HO_5.out)) k_ hn_)), Or.elim hk_ (fun hs_ => fun e_ => Nat.not_le.2 hs_ (by rw [e_]; exact GW499.out)) (fun hn_ => (Kd.freshB (g := gb499) (o := .cells #[.int .i64 a1_0, .int .i64 a1_1, .int .i64 a1_2] 46 (0, 0)) (kz BK499) k_ hn_))⟩)) (below_size bzs)); replace HO_5 := Aside0.mk (rbz HO_5 hb); replace BK499 := Aside0.mk (bbz BK499 hb); replace HB := Aside0.mk (below_step bzs hb); (try clear hb); (try clear ho0)))); replace HO_5 := Aside0.mk (Kd.R_drew HO_5.out)
    replace HO507 := Aside0.mk (Kd.N_drew HO507.out); replace BK499 := Aside0.mk (blk_drew BK499.out); replace HB := Aside0.mk (below_drew1 HB.out); obtain ⟨Ao21, co21, eo21⟩ := Kd.N_slice HO507.out
    (first | subst eo21 | (injection eo21 with f1_ f2_ f3_; have f4_ := f1_.symm; have f5_ := f3_.symm; clear f1_ f2_ f3_; subst f4_; subst f5_))
    refine start_ (n := 6) (S := fun w' => w'.cell? ⟨gb499, 0, none⟩ = some (.int .i64 a1_0) ∧ w'.cell? ⟨gb499, 1, none⟩ = some (.int .i64 a1_1) ∧ w'.cell? ⟨gb499, 2, none⟩ = some (.int .i64 a1_2)) (ds := []) #[F,F,F,F,F,F] (by kernel_rfl) rfl rfl ⟨bc BK499 0, bc BK499 1, bc BK499 2⟩ (fun hHeld => ?_); generalize w19.drew = w20 at HO_5 HO507 BK499 HB hHeld ⊢; refine pure_ (i := 0) (N := some 23) (v := ?_) (a' := ?_) #[T,F,F,F,F,F] rfl rfl (by kernel_rfl) (fun _ _ _ h => h) (Or.inl ⟨by rfl, ?_⟩) ?_ ?_; rotate_left
    ·intro w'; go_simp
     with_reducible rfl
    rotate_left
    ·simp only [Act.put, List.setIfInBounds_toArray, List.set_cons_zero, List.set_cons_succ, i64_w, i32_w]
     rfl
    refine pure_ (i := 2) (N := some 25) (v := ?_) (a' := ?_) #[T,F,T,F,F,F] rfl rfl (by kernel_rfl) (fun _ _ _ h => h) (Or.inl ⟨by rfl, ?_⟩) ?_ ?_; rotate_left
    ·intro w'; go_simp
     with_reducible rfl
    rotate_left
    ·simp only [Act.put, List.setIfInBounds_toArray, List.set_cons_zero, List.set_cons_succ, i64_w, i32_w]
     rfl
    refine take_ (i := 3) (N := some 26) (v := ?_) (a' := ?_) #[T,F,T,T,F,F] rfl rfl (by kernel_rfl) (fun _ _ _ h => h) (Or.inl ⟨by rfl, ?_⟩) hHeld ?_ ?_; rotate_left
    ·rintro w' ⟨s0, s1, s2⟩; go_simp
     with_reducible rfl
    rotate_left
    ·simp only [Act.put, List.setIfInBounds_toArray, List.set_cons_zero, List.set_cons_succ, i64_w, i32_w]
     rfl
    refine one_ (i := 1) (N := some 24) #[T,T,T,T,F,F] rfl rfl (by kernel_rfl) (by decide) (fun K hK => ?_); refine gz Tryz.func70 #[.slice Ao21 t505.length co21] ?_
    with_reducible refine (impl_PlacesOf.calls kj2 _ _ t505 t508 _ ?side1 ?side2 A16.out).mono ?_
    (case side1 => repeat (first | exact (Kd.N_reads' HO507.out).2.2 | (with_reducible refine Kd.C_alloc ?_ _) | (with_reducible refine Kd.C_drewN ?_ _) | (with_reducible refine Kd.C_drew ?_)))
    (case side2 => exact (Kd.N_reads' HO507.out).2.1)
    rintro e w22 ⟨v509, rfl, ho0, hb⟩; refine ⟨_, rfl, ?_⟩; replace HO_5 := Aside0.mk (rbz HO_5 hb); replace HO507 := Aside0.mk (Kd.N_elder' (by (with_reducible repeat (first | apply Kd.N_alloc | apply Kd.N_drewN | apply Kd.N_drew)); exact HO507.out) (Kd.R_base ho0) hb); have HO510 := Aside0.mk (Kd.R_lower ho0 (below_size bzs)); replace BK499 := Aside0.mk (bbz BK499 hb); replace HB := Aside0.mk (below_step bzs hb); (try clear hb); (try clear hb2); (try clear hk); (try clear hi); (try clear ho0); obtain ⟨Ao23, co23, eo23⟩ := Kd.R_slice HO510.out
    (first | subst eo23 | (injection eo23 with f1_ f2_ f3_; have f4_ := f1_.symm; have f5_ := f3_.symm; clear f1_ f2_ f3_; subst f4_; subst f5_))
    refine hK.out _ _ ⟨bc BK499 0, bc BK499 1, bc BK499 2⟩ (fun hHeld => ?_); clear hK K; refine nz 24 ?_; refine one_ (i := 4) (N := some 27) #[T,T,T,T,T,F] rfl rfl (by kernel_rfl) (by decide) (fun K hK => ?_); refine gz Tryz.func69 #[.slice Ao23 t508.length co23, .int .i64 a1_1] ?_
    with_reducible refine (impl_ThinPlaces.calls kj2 _ _ t508 a1_1 t511 _ ?side1 ?side2 A17.out).mono ?_
    (case side1 => repeat (first | exact (Kd.R_reads' HO510.out).2.2 | (with_reducible refine Kd.C_alloc ?_ _) | (with_reducible refine Kd.C_drewN ?_ _) | (with_reducible refine Kd.C_drew ?_)))
    (case side2 => exact (Kd.R_reads' HO510.out).2.1)
    rintro e w24 ⟨v512, rfl, ho0, hb⟩; refine ⟨_, rfl, ?_⟩; replace HO507 := Aside0.mk (Kd.N_elder' (by (with_reducible repeat (first | apply Kd.N_alloc | apply Kd.N_drewN | apply Kd.N_drew)); exact HO507.out) (Kd.R_base ho0) hb); replace HO510 := Aside0.mk (rbz HO510 hb); have HO513 := Aside0.mk (Kd.R_lower (Kd.R_new' ho0 (Kd.R_lt (hr HO_5.out))) (below_size bzs)); replace HO_5 := Aside0.mk (Kd.R_elder' (hr HO_5.out) (Kd.R_base ho0) hb); replace BK499 := Aside0.mk (bbz BK499 hb); replace HB := Aside0.mk (below_step bzs hb); (try clear hb); (try clear hb2); (try clear hk); (try clear hi); (try clear ho0); refine hK.out _ _ ⟨bc BK499 0, bc BK499 1, bc BK499 2⟩ (fun hHeld => ?_); clear hK K; refine nz 27 ?_; refine pure_ (i := 5) (N := some 5) (v := ?_) (a' := ?_) #[T,T,T,T,T,T] rfl rfl (by kernel_rfl) (fun _ _ _ h => h) (Or.inl ⟨by rfl, ?_⟩) ?_ ?_; rotate_left
    ·intro w'; go_simp
     with_reducible rfl
    rotate_left
    ·simp only [Act.put, List.setIfInBounds_toArray, List.set_cons_zero, List.set_cons_succ, i64_w, i32_w]
     rfl
    refine done_ (by kernel_rfl) ?_; (try go_wp2)
    go_loopg [5, 30] kj2 (fun kq v5 v30 w' => ∃ (x5_2 : List Int) (x30_2 : Int), v30 = .int .i64 x30_2 ∧ Aside0 (impl_ShownIds.l0 kq x5_2 t505 (t505.length : Int) x30_2 = some r) ∧ Aside0 (kq ≤ kj2) ∧ Aside0 (Kd.R (Kd.int .i64) 3 w' w.heap.size (fun _ => True) v5 x5_2) ∧ Aside0 (Kd.N k59 59 w' w.heap.size (fun k_ => some k_ ≠ (v5 : Value).ownBlock ∧ k_ ≠ gb499) (.slice Ao21 t505.length co21) t505) ∧ Aside0 (w'.heap[gb499]? = some (.cells #[.int .i64 a1_0, .int .i64 a1_1, .int .i64 a1_2] 46 (0, 0))) ∧ Aside0 (Below w.heap.size w w'))
    case atStart => exact ⟨(t511), (0), rz, H', ⟨Nat.le_refl _⟩, ⟨hr (Kd.R_mono HO513.out (fun _ hk => trivial))⟩, ⟨by (with_reducible repeat (first | apply Kd.N_alloc | apply Kd.N_drewN | apply Kd.N_drew)); exact Kd.N_mono HO507.out (fun _ hk => And.intro hk.2 hk.1.1.2)⟩, ⟨kz BK499⟩, ⟨bzs⟩⟩
    case round =>
     clear H'; (try clear c1); (try clear c2); (try clear p2); (try clear c6); (try clear c7); (try clear c8); (try clear c14); (try clear hcz11_0); (try clear hcz11_1); (try clear hcz11_2); (try clear hcz18_0); (try clear hcz18_1); (try clear hcz18_2); (try clear hfz11_0); (try clear hfz11_1); (try clear hfz11_2); (try clear hfz18_0); (try clear hfz18_1); (try clear hfz18_2); (try clear p2); obtain ⟨x5_2, x30_2, rfl, HA, HK2, HO_5, HO_28, BK499, HB⟩ := hrel
     cases gk with
     | zero => exact absurd HA.out (by simp [impl_ShownIds.l0])
     | succ k2 =>
      have H := HA.out; clear HA; simp only [impl_ShownIds.l0] at H
      by_cases c25 : x30_2 < (t505.length : Int)
      ·rw [if_pos c25] at H; have c25b0 := decide_eq_true c25; clear c25
       by_cases c26 : 0 ≤ x30_2
       ·rw [if_pos c26] at H; have c26b0 := decide_eq_true c26; clear c26
        by_cases c27 : x30_2 < (t505.length : Int)
        ·rw [if_pos c27] at H; have c27b0 := decide_eq_true c27; clear c27
         by_cases c28 : ((rd_T59 t505 x30_2).f1) = 1
         ·rw [if_pos c28] at H; have c28b0 : (((rd_T59 t505 x30_2).f1) == 1) = true := beq_iff_eq.mpr c28; have c28b1 : (((rd_T59 t505 x30_2).f1) != 1) = false := bne_eq_false_iff_eq.mpr c28; clear c28; have H' := Aside0.mk H; clear H; have p514 : 0 ≤ (x30_2 : Int) := of_decide_eq_true az; have q514 : x30_2 < (t505.length : Int) := of_decide_eq_true az; obtain ⟨ad514, A514_4, c514_4, e514, hx514_0, hx514_1, hx514_2, hx514_3, hx514_4, hl514_4, hi514_4⟩ := at_T59 (Kd.N_reads' HO_28.out).2.2 x30_2 p514 q514
          cases e514
          obtain ⟨ce514, hce514, hMe514, hcc514⟩ := Kd.N_get HO_28.out z59 x30_2 p514 (by first | exact q514 | exact of_decide_eq_true az | (have e_ := (Kd.N_reads' HO_28.out).1; omega)); obtain ⟨ua514_4, uc514_4, rfl, ul514_4, ge514_4⟩ := k59_openF hMe514; have hv514_4 := hcc514 4 _ rfl; rw [add_field _ _ 4 (by omega)] at hv514_4; replace hv514_4 := Option.some.inj (hv514_4.symm.trans hx514_4)
          injection hv514_4 with hva_ hvn_ hvc_
          rw [hva_] at ge514_4; rw [hvc_] at ul514_4; have HL514_4 := Aside0.mk (show Kd.V k75 75 _ w.heap.size _ _ ((rd_T59 t505 x30_2).f4) from Kd.V_mk ul514_4 ge514_4); clear hva_ hvn_ hvc_ ge514_4 ul514_4; clear hcc514 hce514; have HR514_4 := Aside0.mk hi514_4; have HC514_4 := Aside0.mk hl514_4; clear hi514_4 hl514_4; replace p514 := eq_true p514; replace q514 := eq_true q514; go_wp2_with (first | ((with_reducible refine gt (some 8) rfl ?_); refine bx #[.int .i64 0, .int .i64 0, .int .i64 0, .string (⟨#[]⟩ : ByteArray), .slice none 0 0] 59 ?_; intro gb515 hg w29 hbox hb; replace HO_5 := Aside0.mk (rbz HO_5 hb); replace HO_28 := Aside0.mk (Kd.N_below (Kd.N_elderB (by (with_reducible repeat (first | apply Kd.N_alloc | apply Kd.N_drewN | apply Kd.N_drew)); exact HO_28.out) gb515 (Nat.le_of_eq hg.symm)) hb); replace HL514_4 := Aside0.mk (Kd.V_below (Kd.V_elderB (by (with_reducible repeat (first | apply Kd.V_alloc | apply Kd.V_drewN | apply Kd.V_drew)); exact HL514_4.out) gb515 (Nat.le_of_eq hg.symm)) hb); replace HR514_4 := Aside0.mk (Kd.C_below (by repeat (first | (with_reducible exact HR514_4.out) | (with_reducible refine Kd.C_alloc ?_ _) | (with_reducible refine Kd.C_drewN ?_ _) | (with_reducible refine Kd.C_drew ?_) | exact HR514_4.out)) hb); have BK515 := Aside0.mk (hbox); have GW515 := Aside0.mk (gez HB hg); have GE515 := Aside0.mk (gez HB hg); replace HB := Aside0.mk (below_step bzs hb); have NB499_515 := Aside0.mk ((by rw [hg]; exact Nat.ne_of_lt (blk_lt (g := gb499) (o := .cells #[.int .i64 a1_0, .int .i64 a1_1, .int .i64 a1_2] 46 (0, 0)) (kz BK499)) : gb499 ≠ gb515)); have NB515_499 := Aside0.mk ((by rw [hg]; exact Nat.ne_of_gt (blk_lt (g := gb499) (o := .cells #[.int .i64 a1_0, .int .i64 a1_1, .int .i64 a1_2] 46 (0, 0)) (kz BK499)) : gb515 ≠ gb499)); replace BK499 := Aside0.mk (bbz BK499 hb); clear hb hbox hg; have hnb30 := NB515_499.out; have hnc30 := NB499_515.out; obtain ⟨hcz31_0, hcz31_1, hcz31_2, hcz31_3, hcz31_4, hfz31_0, hfz31_1, hfz31_2, hfz31_3, hfz31_4⟩ := cells5 BK515))
          go_roundg k2
          case measure => have := HJ2.out; have := HK2.out; omega
          case rel => exact ⟨(x5_2), (wrap64 (x30_2 + 1)), rz, H', ⟨by have := HJ2.out; have := HK2.out; omega⟩, ⟨hr (Kd.R_mono (Kd.R_far (p := ⟨gb515, 4, none⟩) (Kd.R_far (p := ⟨gb515, 3, none⟩) (Kd.R_far (p := ⟨gb515, 2, none⟩) (Kd.R_far (p := ⟨gb515, 1, none⟩) (Kd.R_far (p := ⟨gb515, 0, none⟩) (Kd.R_types HO_5.out BK515.out (by decide)) (fun _ hk => hk.2) (.int .i64 ((rd_T59 t505 x30_2).f0))) (fun _ hk => hk.2) (.int .i64 ((rd_T59 t505 x30_2).f1))) (fun _ hk => hk.2) (.int .i64 ((rd_T59 t505 x30_2).f2))) (fun _ hk => hk.2) (.string ((rd_T59 t505 x30_2).f3))) (fun _ hk => hk.2) (.slice A514_4 ((rd_T59 t505 x30_2).f4).length c514_4)) (fun _ hk => trivial))⟩, ⟨by (with_reducible repeat (first | apply Kd.N_alloc | apply Kd.N_drewN | apply Kd.N_drew)); exact Kd.N_mono (Kd.N_far (p := ⟨gb515, 4, none⟩) (Kd.N_far (p := ⟨gb515, 3, none⟩) (Kd.N_far (p := ⟨gb515, 2, none⟩) (Kd.N_far (p := ⟨gb515, 1, none⟩) (Kd.N_far (p := ⟨gb515, 0, none⟩) (Kd.N_mono HO_28.out (fun k_ hk => (⟨hk, hk.2⟩ : _ ∧ k_ ≠ gb515))) (fun _ hk => hk.2) (.int .i64 ((rd_T59 t505 x30_2).f0))) (fun _ hk => hk.2) (.int .i64 ((rd_T59 t505 x30_2).f1))) (fun _ hk => hk.2) (.int .i64 ((rd_T59 t505 x30_2).f2))) (fun _ hk => hk.2) (.string ((rd_T59 t505 x30_2).f3))) (fun _ hk => hk.2) (.slice A514_4 ((rd_T59 t505 x30_2).f4).length c514_4)) (fun _ hk => And.intro hk.1.1.1 hk.1.1.2)⟩, ⟨kz BK499⟩, ⟨bzs⟩⟩
         ·rw [if_neg c28] at H; have c28b0 : (((rd_T59 t505 x30_2).f1) == 1) = false := beq_eq_false_iff_ne.mpr c28; have c28b1 : (((rd_T59 t505 x30_2).f1) != 1) = true := bne_iff_ne.mpr c28
          by_cases c32 : x5_2.length < 17592186044416
          ·rw [if_pos c32] at H; have LMc32 := Aside0.mk c32; clear c32; obtain ⟨y516, hy516⟩ : ∃ y_ : List Int, y_ = (x5_2 ++ [(rd_T59 t505 x30_2).f0]) := ⟨_, rfl⟩
           replace H : (impl_ShownIds.l0 k2 y516 t505 (t505.length : Int) (wrap64 (x30_2 + 1))) = some r := by first | (rw [hy516]; with_reducible exact H) | (have H2_ := (Option.bind_some _ _).symm.trans H; rw [hy516]; with_reducible exact H2_) | (have H2_ := (Option.bind_some _ _).symm.trans H; with_reducible exact H2_) | with_reducible exact H | (rw [hy516]; exact H) | exact H
           have Ny516 := Aside0.mk hy516; clear hy516; have H' := Aside0.mk H; clear H; have p514 : 0 ≤ (x30_2 : Int) := of_decide_eq_true az; have q514 : x30_2 < (t505.length : Int) := of_decide_eq_true az; obtain ⟨ad514, A514_4, c514_4, e514, hx514_0, hx514_1, hx514_2, hx514_3, hx514_4, hl514_4, hi514_4⟩ := at_T59 (Kd.N_reads' HO_28.out).2.2 x30_2 p514 q514
           cases e514
           obtain ⟨ce514, hce514, hMe514, hcc514⟩ := Kd.N_get HO_28.out z59 x30_2 p514 (by first | exact q514 | exact of_decide_eq_true az | (have e_ := (Kd.N_reads' HO_28.out).1; omega)); obtain ⟨ua514_4, uc514_4, rfl, ul514_4, ge514_4⟩ := k59_openF hMe514; have hv514_4 := hcc514 4 _ rfl; rw [add_field _ _ 4 (by omega)] at hv514_4; replace hv514_4 := Option.some.inj (hv514_4.symm.trans hx514_4)
           injection hv514_4 with hva_ hvn_ hvc_
           rw [hva_] at ge514_4; rw [hvc_] at ul514_4; have HL514_4 := Aside0.mk (show Kd.V k75 75 _ w.heap.size _ _ ((rd_T59 t505 x30_2).f4) from Kd.V_mk ul514_4 ge514_4); clear hva_ hvn_ hvc_ ge514_4 ul514_4; clear hcc514 hce514; have HR514_4 := Aside0.mk hi514_4; have HC514_4 := Aside0.mk hl514_4; clear hi514_4 hl514_4; replace p514 := eq_true p514; replace q514 := eq_true q514; go_wp2_with (first | ((with_reducible refine gt (some 8) rfl ?_); refine bx #[.int .i64 0, .int .i64 0, .int .i64 0, .string (⟨#[]⟩ : ByteArray), .slice none 0 0] 59 ?_; intro gb515 hg w33 hbox hb; replace HO_5 := Aside0.mk (rbz HO_5 hb); replace HO_28 := Aside0.mk (Kd.N_below (Kd.N_elderB (by (with_reducible repeat (first | apply Kd.N_alloc | apply Kd.N_drewN | apply Kd.N_drew)); exact HO_28.out) gb515 (Nat.le_of_eq hg.symm)) hb); replace HL514_4 := Aside0.mk (Kd.V_below (Kd.V_elderB (by (with_reducible repeat (first | apply Kd.V_alloc | apply Kd.V_drewN | apply Kd.V_drew)); exact HL514_4.out) gb515 (Nat.le_of_eq hg.symm)) hb); replace HR514_4 := Aside0.mk (Kd.C_below (by repeat (first | (with_reducible exact HR514_4.out) | (with_reducible refine Kd.C_alloc ?_ _) | (with_reducible refine Kd.C_drewN ?_ _) | (with_reducible refine Kd.C_drew ?_) | exact HR514_4.out)) hb); have BK515 := Aside0.mk (hbox); have GW515 := Aside0.mk (gez HB hg); have GE515 := Aside0.mk (gez HB hg); replace HB := Aside0.mk (below_step bzs hb); have NB499_515 := Aside0.mk ((by rw [hg]; exact Nat.ne_of_lt (blk_lt (g := gb499) (o := .cells #[.int .i64 a1_0, .int .i64 a1_1, .int .i64 a1_2] 46 (0, 0)) (kz BK499)) : gb499 ≠ gb515)); have NB515_499 := Aside0.mk ((by rw [hg]; exact Nat.ne_of_gt (blk_lt (g := gb499) (o := .cells #[.int .i64 a1_0, .int .i64 a1_1, .int .i64 a1_2] 46 (0, 0)) (kz BK499)) : gb515 ≠ gb499)); replace BK499 := Aside0.mk (bbz BK499 hb); clear hb hbox hg; have hnb34 := NB515_499.out; have hnc34 := NB499_515.out; obtain ⟨hcz35_0, hcz35_1, hcz35_2, hcz35_3, hcz35_4, hfz35_0, hfz35_1, hfz35_2, hfz35_3, hfz35_4⟩ := cells5 BK515) | ((with_reducible refine gate_builtin (b := .append) (xs := #[.tmp 37, .tmp 40]) rfl ?_); at_builtin; refine Kd.R_append (Kd.int .i64) (w0 := w) w.heap.size rfl (.tmp 37) (.tmp 40) 23 3 (.int .i64 0) 8 rfl Tryz.underlying23 info3 rfl (by decide) (by omega) u5 x5_2 ((rd_T59 t505 x30_2).f0) [.int .i64 ((rd_T59 t505 x30_2).f0)] (fun _ => True) (fun _ => False) rfl (by first | (go_simp; done) | (go_simp; rfl)) ?aP (fun _ hk => hk.elim) ?aF ?aO ?aB ?aS ?aL ?_; (case aP => exact rfl); (case aB => exact bzs); (case aF => exact (fun _ _ => trivial)); (case aO => exact (hr (Kd.R_mono (Kd.R_far (p := ⟨gb515, 4, none⟩) (Kd.R_far (p := ⟨gb515, 3, none⟩) (Kd.R_far (p := ⟨gb515, 2, none⟩) (Kd.R_far (p := ⟨gb515, 1, none⟩) (Kd.R_far (p := ⟨gb515, 0, none⟩) (Kd.R_types HO_5.out BK515.out (by decide)) (fun _ hk => hk.2) (.int .i64 ((rd_T59 t505 x30_2).f0))) (fun _ hk => hk.2) (.int .i64 ((rd_T59 t505 x30_2).f1))) (fun _ hk => hk.2) (.int .i64 ((rd_T59 t505 x30_2).f2))) (fun _ hk => hk.2) (.string ((rd_T59 t505 x30_2).f3))) (fun _ hk => hk.2) (.slice A514_4 ((rd_T59 t505 x30_2).f4).length c514_4)) (fun _ hk => trivial)))); (case aS => exact (below_size bzs)); (case aL => have := LMc32.out; omega); intro v517 w36 ho hb hg hat; rw [← Ny516.out] at ho; have n0_ := Aside0.mk (Kd.N_afterv (ok := (fun k_ => k_ ≠ gb499 ∧ k_ ≠ gb515)) (by (with_reducible repeat (first | apply Kd.N_alloc | apply Kd.N_drewN | apply Kd.N_drew)); exact Kd.N_mono (Kd.N_far (p := ⟨gb515, 4, none⟩) (Kd.N_far (p := ⟨gb515, 3, none⟩) (Kd.N_far (p := ⟨gb515, 2, none⟩) (Kd.N_far (p := ⟨gb515, 1, none⟩) (Kd.N_far (p := ⟨gb515, 0, none⟩) (Kd.N_mono HO_28.out (fun k_ hk => (⟨hk, hk.2⟩ : _ ∧ k_ ≠ gb515))) (fun _ hk => hk.2) (.int .i64 ((rd_T59 t505 x30_2).f0))) (fun _ hk => hk.2) (.int .i64 ((rd_T59 t505 x30_2).f1))) (fun _ hk => hk.2) (.int .i64 ((rd_T59 t505 x30_2).f2))) (fun _ hk => hk.2) (.string ((rd_T59 t505 x30_2).f3))) (fun _ hk => hk.2) (.slice A514_4 ((rd_T59 t505 x30_2).f4).length c514_4)) (fun _ hk => ⟨⟨hk.1.1.2, hk.1.2⟩, hk.1.1.1⟩)) hg hat); have n1_ := Aside0.mk (blk_grown (g := gb499) (o := .cells #[.int .i64 a1_0, .int .i64 a1_1, .int .i64 a1_2] 46 (0, 0)) (kz BK499) hg (Kd.R_ne HO_5.out BK499.out (by decide))); have n2_ := Aside0.mk (Kd.V_afterv (ok := (fun k_ => some k_ ≠ (.slice (some ad514) t505.length co21 : Value).ownBlock ∧ k_ ≠ gb499 ∧ k_ ≠ gb515)) (by (with_reducible repeat (first | apply Kd.V_alloc | apply Kd.V_drewN | apply Kd.V_drew)); exact Kd.V_mono (Kd.V_far (p := ⟨gb515, 4, none⟩) (Kd.V_far (p := ⟨gb515, 3, none⟩) (Kd.V_far (p := ⟨gb515, 2, none⟩) (Kd.V_far (p := ⟨gb515, 1, none⟩) (Kd.V_far (p := ⟨gb515, 0, none⟩) (Kd.V_mono HL514_4.out (fun k_ hk => (⟨hk, hk.2⟩ : _ ∧ k_ ≠ gb515))) (fun _ hk => hk.2) (.int .i64 ((rd_T59 t505 x30_2).f0))) (fun _ hk => hk.2) (.int .i64 ((rd_T59 t505 x30_2).f1))) (fun _ hk => hk.2) (.int .i64 ((rd_T59 t505 x30_2).f2))) (fun _ hk => hk.2) (.string ((rd_T59 t505 x30_2).f3))) (fun _ hk => hk.2) (.slice A514_4 ((rd_T59 t505 x30_2).f4).length c514_4)) (fun _ hk => ⟨⟨hk.1.1.2, ⟨hk.1.1.1.2, hk.1.2⟩⟩, hk.1.1.1.1⟩)) hg hat); have n3_ := Aside0.mk (blk_grown (g := gb515) (o := .cells #[.int .i64 ((rd_T59 t505 x30_2).f0), .int .i64 ((rd_T59 t505 x30_2).f1), .int .i64 ((rd_T59 t505 x30_2).f2), .string ((rd_T59 t505 x30_2).f3), .slice A514_4 ((rd_T59 t505 x30_2).f4).length c514_4] 59 (0, 0)) (by (with_reducible repeat (first | refine blk_drewN ?_ _ | refine blk_drew ?_ | refine blk_alloc ?_ _)); refine blk_put (cs := #[.int .i64 ((rd_T59 t505 x30_2).f0), .int .i64 ((rd_T59 t505 x30_2).f1), .int .i64 ((rd_T59 t505 x30_2).f2), .string ((rd_T59 t505 x30_2).f3), .slice none 0 0]) ?_ 4 _ rfl; (with_reducible repeat (first | refine blk_drewN ?_ _ | refine blk_drew ?_ | refine blk_alloc ?_ _)); refine blk_put (cs := #[.int .i64 ((rd_T59 t505 x30_2).f0), .int .i64 ((rd_T59 t505 x30_2).f1), .int .i64 ((rd_T59 t505 x30_2).f2), .string (⟨#[]⟩ : ByteArray), .slice none 0 0]) ?_ 3 _ rfl; (with_reducible repeat (first | refine blk_drewN ?_ _ | refine blk_drew ?_ | refine blk_alloc ?_ _)); refine blk_put (cs := #[.int .i64 ((rd_T59 t505 x30_2).f0), .int .i64 ((rd_T59 t505 x30_2).f1), .int .i64 0, .string (⟨#[]⟩ : ByteArray), .slice none 0 0]) ?_ 2 _ rfl; (with_reducible repeat (first | refine blk_drewN ?_ _ | refine blk_drew ?_ | refine blk_alloc ?_ _)); refine blk_put (cs := #[.int .i64 ((rd_T59 t505 x30_2).f0), .int .i64 0, .int .i64 0, .string (⟨#[]⟩ : ByteArray), .slice none 0 0]) ?_ 1 _ rfl; (with_reducible repeat (first | refine blk_drewN ?_ _ | refine blk_drew ?_ | refine blk_alloc ?_ _)); refine blk_put (cs := #[.int .i64 0, .int .i64 0, .int .i64 0, .string (⟨#[]⟩ : ByteArray), .slice none 0 0]) ?_ 0 _ rfl; (with_reducible repeat (first | refine blk_drewN ?_ _ | refine blk_drew ?_ | refine blk_alloc ?_ _)); exact BK515.out) hg (Kd.R_ne HO_5.out BK515.out (by decide))); have n4_ := Aside0.mk (hb); have n5_ := Aside0.mk (ho); clear HO_28; clear BK499; clear HL514_4; clear BK515; clear HB; clear HO_5; have HO_28 := n0_; have BK499 := n1_; have HL514_4 := n2_; have BK515 := n3_; have HB := n4_; have HO518 := n5_; clear n0_ n1_ n2_ n3_ n4_ n5_; clear ho hb hg hat))
           go_roundg k2
           case measure => have := HJ2.out; have := HK2.out; omega
           case rel => exact ⟨(y516), (wrap64 (x30_2 + 1)), rz, H', ⟨by have := HJ2.out; have := HK2.out; omega⟩, ⟨hr HO518.out⟩, ⟨by (with_reducible repeat (first | apply Kd.N_alloc | apply Kd.N_drewN | apply Kd.N_drew)); exact Kd.N_mono HO_28.out (fun _ hk => And.intro hk.2 hk.1.1)⟩, ⟨kz BK499⟩, ⟨bzs⟩⟩
          ·rw [if_neg c32] at H
           exact absurd H (by simp)
        ·rw [if_neg c27] at H
         exact absurd H (by simp)
       ·rw [if_neg c26] at H
        exact absurd H (by simp)
      ·rw [if_neg c25] at H; have c25b0 := decide_eq_false c25; clear c25; replace H := Option.bind_eq_some_iff.mp H; obtain ⟨t519, A370, H⟩ := H; have A37 := Aside0.mk A370; clear A370; obtain rfl := Option.some.inj H; obtain ⟨Ao38, co38, eo38⟩ := Kd.R_slice HO_5.out; subst eo38; go_wp2_with (first | ((with_reducible refine gt (some 44) rfl ?_); refine gc Tryz.func71 (slices_Sort_int_int.calls (fun k_ => some k_ = (.slice Ao38 x5_2.length co38 : Value).ownBlock) (.slice Ao38 x5_2.length co38) x5_2 t519 w _ (by repeat (first | (with_reducible first | exact HB.out | apply below_alloc | apply pw_below_drewN | apply below_drew1 | refine below_set ?_ GE499.out) | exact HB.out)) (Kd.R_tight rfl HO_5.out) A37.out) ?_; rintro e w39 ⟨rfl, hy0, hb, hkp⟩; refine ⟨_, rfl, ?_⟩; replace HO_28 := Aside0.mk (Kd.N_mono (ok' := fun k_ => some k_ ≠ (.slice Ao38 x5_2.length co38 : Value).ownBlock ∧ k_ ≠ gb499) (Kd.N_keptB (HO_28.out) hkp (fun k_ hk_ hs_ => absurd hs_ (by first | exact hk_.1 | exact hk_.1.2 | exact hk_.1.1 | exact hk_.1 | exact hk_.2 | exact hk_.1.1.2 | exact hk_))) (fun k_ hk_ => ⟨hk_.1.1, hk_.1.2⟩)); replace BK499 := Aside0.mk (blk_kept (kz BK499) hkp (fun hs_ => (fun e_ => (Kd.R_ne HO_5.out BK499.out (by decide)) e_) hs_)); replace HO_5 := Aside0.mk (Kd.R_reok rfl hy0 (fun k_ e_ => HO_5.out.1 k_ e_)); replace HB := Aside0.mk (hb); (try clear hb); (try clear hkp); (try clear hy0))); go_ret
       exact ⟨_, ez, hr HO_5.out, bzs⟩
set_option maxHeartbeats 8000000 in
set_option maxRecDepth 100000 in
theorem laws_FnExactShownIds.calls (k : Nat) (A0 : Option Addr) (c0 : Nat) (l0 : List S52) (v0 : Int) (v1 : Int) (v2 : Int) (r : Bool) (w : World) (hr0 : Kd.C k52 w A0 l0.length l0) (hc0 : l0.length ≤ c0) (h : laws_FnExactShownIds.f k l0 v0 v1 v2 = some r) :
    Calls Tryz.prog 6 #[.slice A0 l0.length c0, .agg #[.int .i64 v0, .int .i64 v1, .int .i64 v2]] w fun e w' => e = .returned (.bool r) ∧ Below w.heap.size w w' := by
  have HR0 := Aside0.mk hr0
  have HC0 := Aside0.mk hc0
  have HB := Aside0.mk (Below.refl w.heap.size w)
  clear hr0 hc0
  unfold laws_FnExactShownIds.f at h
  obtain ⟨left, hA1, h⟩ := Option.bind_eq_some_iff.mp h
  have HL_ := Aside0.mk hA1
  clear hA1
  by_cases c1_ : left < 0
  · rw [if_pos c1_] at h
    obtain rfl := Option.some.inj h
    have c1b : decide (left < 0) = true := decide_eq_true c1_
    clear c1_ h
    go_enter Tryz.func6, Tryz.ntmps6
    go_wp2_with (fail)
    go_at_call 7
    refine (laws_szFeatureS.calls k A0 c0 l0 1048576 left _ (Kd.C_below HR0.out (by first | exact HB.out | exact below_alloc HB.out _)) HC0.out HL_.out).mono ?_
    rintro e w1 ⟨rfl, hb⟩
    have HB1 := Aside0.mk (below_step (by first | exact HB.out | exact below_alloc HB.out _) hb)
    clear hb
    go_wp2_with (fail)
    go_ret
    exact ⟨rfl, HB1.out⟩
  rw [if_neg c1_] at h
  have c1b : decide (left < 0) = false := decide_eq_false c1_
  clear c1_
  obtain ⟨x, h1, h⟩ := Option.bind_eq_some_iff.mp h
  obtain ⟨⟨r0, r1, r2⟩, h2, h⟩ := Option.bind_eq_some_iff.mp h
  obtain ⟨s, h3, h⟩ := Option.bind_eq_some_iff.mp h
  obtain ⟨g, h4, h⟩ := Option.bind_eq_some_iff.mp h
  obtain ⟨e1, h5, h⟩ := Option.bind_eq_some_iff.mp h
  obtain ⟨e2, h6, h⟩ := Option.bind_eq_some_iff.mp h
  obtain ⟨m1, h8, h⟩ := Option.bind_eq_some_iff.mp h
  obtain ⟨⟨m3, m3r⟩, h10, h⟩ := Option.bind_eq_some_iff.mp h
  obtain ⟨q, h11, h⟩ := Option.bind_eq_some_iff.mp h
  dsimp only at h
  by_cases hc : e1 = true ∧ e2 = true ∧ 0 ≤ m1 ∧ 0 ≤ q ∧ m3 = q
  case neg => rw [if_neg hc] at h; cases h
  rw [if_pos hc] at h
  obtain rfl := Option.some.inj h
  obtain ⟨rfl, rfl, hm1, hq, hmq⟩ := hc
  rw [hmq] at h10
  clear hmq
  have k1 : decide (m1 < 0) = false := decide_eq_false (by omega)
  have k2 : decide (q < 0) = false := decide_eq_false (by omega)
  have HX_ := Aside0.mk h1; have HS_ := Aside0.mk h3; have HG_ := Aside0.mk h4; have HE1_ := Aside0.mk h5; have HE2_ := Aside0.mk h6; have HM1_ := Aside0.mk h8; have HM3_ := Aside0.mk h10; have HQ_ := Aside0.mk h11; have HV_ := Aside0.mk h2
  clear h h1 h3 h4 h5 h6 h8 h10 h11 h2 hm1 hq
  go_enter Tryz.func6, Tryz.ntmps6
  go_wp2_with (fail)
  generalize hW0 : w.alloc (.cells #[.int .i64 v0, .int .i64 v1, .int .i64 v2] 44 (0, 0)) = W0
  clear HB
  have HB := Aside0.mk (show Below w.heap.size w W0 from hW0 ▸ below_alloc (Below.refl _ _) _)
  have VB := Aside0.mk (show W0.heap[w.heap.size]? = some (.cells #[.int .i64 v0, .int .i64 v1, .int .i64 v2] 44 (0, 0)) from hW0 ▸ blk_new w _)
  have zV := Aside0.mk (show w.heap.size < W0.heap.size from blk_lt VB.out)
  clear hW0
  go_at_call 7
  refine (laws_szFeatureS.calls k A0 c0 l0 1048576 left _ (Kd.C_below HR0.out HB.out) HC0.out HL_.out).mono ?_
  rintro _ w1 ⟨rfl, hb⟩
  have z1 := Aside0.mk (show W0.heap.size ≤ w1.heap.size from below_size hb)
  have q_HB := Aside0.mk (below_step HB.out hb)
  have q_VB := Aside0.mk ((hb.block w.heap.size (blk_lt VB.out)).trans VB.out)
  clear HB VB
  have HB := q_HB
  have VB := q_VB
  clear q_HB q_VB
  clear hb
  go_upto_region 5 with (fail)
  have hb := (below_drew1 (Below.refl w1.heap.size w1) : Below w1.heap.size w1 w1.drew)
  have q_HB := Aside0.mk (below_step HB.out hb)
  have q_VB := Aside0.mk ((hb.block w.heap.size (blk_lt VB.out)).trans VB.out)
  have HSD : Aside0 (w1.drew.cell? ⟨w.heap.size, 0, none⟩ = some (.int .i64 v0) ∧ w1.drew.cell? ⟨w.heap.size, 1, none⟩ = some (.int .i64 v1) ∧ w1.drew.cell? ⟨w.heap.size, 2, none⟩ = some (.int .i64 v2)) := ⟨⟨(blk_cell VB.out 0).trans rfl, (blk_cell VB.out 1).trans rfl, (blk_cell VB.out 2).trans rfl⟩⟩
  clear hb HB VB
  have HB := q_HB
  have VB := q_VB
  clear q_HB q_VB
  refine start_ (n := 6) (S := fun w' => w'.cell? ⟨w.heap.size, 0, none⟩ = some (.int .i64 v0) ∧ w'.cell? ⟨w.heap.size, 1, none⟩ = some (.int .i64 v1) ∧ w'.cell? ⟨w.heap.size, 2, none⟩ = some (.int .i64 v2)) (ds := []) #[false,false,false,false,false,false] (by kernel_rfl) rfl rfl HSD.out (fun hHeld => ?_)
  refine with_tabW lw.tab5 lw.bits5 (fun HT_ HW_ => ?_)
  have z2 := Aside0.mk (show w1.heap.size ≤ w1.drew.heap.size from Nat.le_refl _)
  generalize w1.drew = w2 at HB VB z2 HSD hHeld ⊢
  have SX : Aside0 (∀ w', Below w2.heap.size w2 w' → w'.cell? ⟨w.heap.size, 0, none⟩ = some (.int .i64 v0) ∧ w'.cell? ⟨w.heap.size, 1, none⟩ = some (.int .i64 v1) ∧ w'.cell? ⟨w.heap.size, 2, none⟩ = some (.int .i64 v2)) := ⟨fun w' hb => ⟨(hb.cell (World.block_lt_of_cell? _ _ hHeld.1)).trans hHeld.1, (hb.cell (World.block_lt_of_cell? _ _ hHeld.2.1)).trans hHeld.2.1, (hb.cell (World.block_lt_of_cell? _ _ hHeld.2.2)).trans hHeld.2.2⟩⟩
  have HBD := Aside0.mk (Below.refl w2.heap.size w2)
  refine pz HT_ 0 18 ?_
  refine tz3 HT_ HW_ hHeld 2 20 ?_
  refine oz HT_ 1 (some 19) (fun K hK => ?_)
  refine gz Tryz.func9 #[.slice A0 l0.length c0] ((laws_toFeatureS.calls k A0 c0 l0 x _ (Kd.C_below HR0.out HB.out) HC0.out HX_.out).mono ?_)
  rintro _ w3 ⟨v3, rfl, ho, hb⟩
  obtain ⟨X_FA, d_FA, e_⟩ := Kd.S_slice ho
  subst e_
  have z3 := Aside0.mk (show w2.heap.size ≤ w3.heap.size from below_size hb)
  have n_ := Aside0.mk (Kd.S_lower (Kd.S_mono (Kd.S_bound ho) (ok' := fun k_ => w2.heap.size ≤ k_ ∧ k_ < w3.heap.size) (fun _ hk => ⟨hk.2.1, hk.2.2.1⟩)) (show w.heap.size ≤ _ from below_size HB.out))
  have q_HB := Aside0.mk (below_step HB.out hb)
  have q_VB := Aside0.mk ((hb.block w.heap.size (blk_lt VB.out)).trans VB.out)
  have q_HBD := Aside0.mk (below_step HBD.out hb)
  clear HB VB HBD
  have HB := q_HB
  have VB := q_VB
  have HBD := q_HBD
  clear q_HB q_VB q_HBD
  have FA := n_
  clear n_ ho hb
  refine ⟨_, rfl, hK.out _ _ (SX.out _ HBD.out) (fun hHeld => ?_)⟩
  clear hK K
  refine nz 19 ?_
  refine oz HT_ 3 (some 21) (fun K hK => ?_)
  refine gz Tryz.func28 #[.agg #[.int .i64 v0, .int .i64 v1, .int .i64 v2]] ((laws_toLevel.calls v0 v1 v2 r0 r1 r2 _ HV_.out).mono ?_)
  rintro _ w4 ⟨rfl, hb⟩
  have z4 := Aside0.mk (show w3.heap.size ≤ w4.heap.size from below_size hb)
  have q_HB := Aside0.mk (below_step HB.out hb)
  have q_VB := Aside0.mk ((hb.block w.heap.size (blk_lt VB.out)).trans VB.out)
  have q_HBD := Aside0.mk (below_step HBD.out hb)
  have q_FA := Aside0.mk (Kd.S_below FA.out hb)
  clear HB VB HBD FA
  have HB := q_HB
  have VB := q_VB
  have HBD := q_HBD
  have FA := q_FA
  clear q_HB q_VB q_HBD q_FA
  clear hb
  refine ⟨_, rfl, hK.out _ _ (SX.out _ HBD.out) (fun hHeld => ?_)⟩
  clear hK K
  refine nz 21 ?_
  refine oz HT_ 4 (some 22) (fun K hK => ?_)
  refine gz Tryz.func27 #[.slice X_FA x.length d_FA, .agg #[.int .i64 r0, .int .i64 r1, .int .i64 r2]] ((spec_ShownIds.calls k X_FA d_FA x r0 r1 r2 s _ (Kd.S_reads' FA.out).2.2 (Kd.S_reads' FA.out).2.1 HS_.out).mono ?_)
  rintro _ w5 ⟨v5, rfl, ho, hb⟩
  obtain ⟨X_RS, d_RS, e_⟩ := Kd.R_slice ho
  subst e_
  have z5 := Aside0.mk (show w4.heap.size ≤ w5.heap.size from below_size hb)
  have n_ := Aside0.mk (Kd.R_lower (Kd.R_mono (Kd.R_bound ho) (ok' := fun k_ => w4.heap.size ≤ k_ ∧ k_ < w5.heap.size) (fun _ hk => ⟨hk.2.1, hk.2.2.1⟩)) (show w.heap.size ≤ _ from below_size HB.out))
  have q_HB := Aside0.mk (below_step HB.out hb)
  have q_VB := Aside0.mk ((hb.block w.heap.size (blk_lt VB.out)).trans VB.out)
  have q_HBD := Aside0.mk (below_step HBD.out hb)
  have q_FA := Aside0.mk (Kd.S_below FA.out hb)
  clear HB VB HBD FA
  have HB := q_HB
  have VB := q_VB
  have HBD := q_HBD
  have FA := q_FA
  clear q_HB q_VB q_HBD q_FA
  have RS := n_
  clear n_ ho hb
  refine ⟨_, rfl, hK.out _ _ (SX.out _ HBD.out) (fun hHeld => ?_)⟩
  clear hK K
  refine nz 22 ?_
  refine pz HT_ 5 6 ?_
  refine dz HT_ ?_
  clear HT_ HW_ SX HSD hHeld
  clear HBD
  clear FA
  go_wp2_with (fail)
  go_at_call 9
  refine (laws_toFeatureS.calls k A0 c0 l0 x _ (Kd.C_below HR0.out HB.out) HC0.out HX_.out).mono ?_
  rintro _ w6 ⟨v6, rfl, ho, hb⟩
  obtain ⟨X_RX, d_RX, e_⟩ := Kd.S_slice ho
  subst e_
  have z6 := Aside0.mk (show w5.heap.size ≤ w6.heap.size from below_size hb)
  have n_ := Aside0.mk (Kd.S_lower (Kd.S_mono (Kd.S_bound ho) (ok' := fun k_ => w5.heap.size ≤ k_ ∧ k_ < w6.heap.size) (fun _ hk => ⟨hk.2.1, hk.2.2.1⟩)) (show w.heap.size ≤ _ from below_size HB.out))
  have q_HB := Aside0.mk (below_step HB.out hb)
  have q_VB := Aside0.mk ((hb.block w.heap.size (blk_lt VB.out)).trans VB.out)
  have q_RS := Aside0.mk (Kd.R_below RS.out hb)
  clear HB VB RS
  have HB := q_HB
  have VB := q_VB
  have RS := q_RS
  clear q_HB q_VB q_RS
  have RX := n_
  clear n_ ho hb
  have cv0 : w6.cell? ⟨w.heap.size, 0, none⟩ = some (.int .i64 v0) := (blk_cell VB.out 0).trans rfl
  have cv1 : w6.cell? ⟨w.heap.size, 1, none⟩ = some (.int .i64 v1) := (blk_cell VB.out 1).trans rfl
  have cv2 : w6.cell? ⟨w.heap.size, 2, none⟩ = some (.int .i64 v2) := (blk_cell VB.out 2).trans rfl
  go_wp2_with (fail)
  go_at_call 28
  refine (laws_toLevel.calls v0 v1 v2 r0 r1 r2 _ HV_.out).mono ?_
  rintro _ w7 ⟨rfl, hb⟩
  clear cv0 cv1 cv2
  have z7 := Aside0.mk (show w6.heap.size ≤ w7.heap.size from below_size hb)
  have q_HB := Aside0.mk (below_step HB.out hb)
  have q_VB := Aside0.mk ((hb.block w.heap.size (blk_lt VB.out)).trans VB.out)
  have q_RS := Aside0.mk (Kd.R_below RS.out hb)
  have q_RX := Aside0.mk (Kd.S_below RX.out hb)
  clear HB VB RS RX
  have HB := q_HB
  have VB := q_VB
  have RS := q_RS
  have RX := q_RX
  clear q_HB q_VB q_RS q_RX
  clear hb
  go_wp2_with (fail)
  go_at_call 29
  refine (impl_ShownIds.calls k X_RX d_RX x r0 r1 r2 g _ (Kd.S_reads' RX.out).2.2 (Kd.S_reads' RX.out).2.1 HG_.out).mono ?_
  rintro _ w8 ⟨v8, rfl, ho, hb⟩
  obtain ⟨X_RG, d_RG, e_⟩ := Kd.R_slice ho
  subst e_
  have z8 := Aside0.mk (show w7.heap.size ≤ w8.heap.size from below_size hb)
  have n_ := Aside0.mk (Kd.R_lower (Kd.R_mono (Kd.R_bound ho) (ok' := fun k_ => w7.heap.size ≤ k_ ∧ k_ < w8.heap.size) (fun _ hk => ⟨hk.2.1, hk.2.2.1⟩)) (show w.heap.size ≤ _ from below_size HB.out))
  have q_HB := Aside0.mk (below_step HB.out hb)
  have q_VB := Aside0.mk ((hb.block w.heap.size (blk_lt VB.out)).trans VB.out)
  have q_RS := Aside0.mk (Kd.R_below RS.out hb)
  have q_RX := Aside0.mk (Kd.S_below RX.out hb)
  clear HB VB RS RX
  have HB := q_HB
  have VB := q_VB
  have RS := q_RS
  have RX := q_RX
  clear q_HB q_VB q_RS q_RX
  have RG := n_
  clear n_ ho hb
  go_wp2_with (fail)
  go_at_call 14
  refine (laws_eqIntS.calls k X_RG d_RG g X_RS d_RS s true _ (Kd.R_reads' RG.out).2.2 (Kd.R_reads' RG.out).2.1 (Kd.R_reads' RS.out).2.2 (Kd.R_reads' RS.out).2.1 HE1_.out).mono ?_
  rintro _ w9 ⟨rfl, hb⟩
  replace hb := hb.below
  have z9 := Aside0.mk (show w8.heap.size ≤ w9.heap.size from below_size hb)
  have q_HB := Aside0.mk (below_step HB.out hb)
  have q_VB := Aside0.mk ((hb.block w.heap.size (blk_lt VB.out)).trans VB.out)
  have q_RS := Aside0.mk (Kd.R_below RS.out hb)
  have q_RX := Aside0.mk (Kd.S_below RX.out hb)
  have q_RG := Aside0.mk (Kd.R_below RG.out hb)
  clear HB VB RS RX RG
  have HB := q_HB
  have VB := q_VB
  have RS := q_RS
  have RX := q_RX
  have RG := q_RG
  clear q_HB q_VB q_RS q_RX q_RG
  clear hb
  go_wp2_with (fail)
  go_at_call 9
  refine (laws_toFeatureS.calls k A0 c0 l0 x _ (Kd.C_below HR0.out HB.out) HC0.out HX_.out).mono ?_
  rintro _ w10 ⟨v10, rfl, ho, hb⟩
  obtain ⟨X_FA, d_FA, e_⟩ := Kd.S_slice ho
  subst e_
  have z10 := Aside0.mk (show w9.heap.size ≤ w10.heap.size from below_size hb)
  have n_ := Aside0.mk (Kd.S_lower (Kd.S_mono (Kd.S_bound ho) (ok' := fun k_ => w9.heap.size ≤ k_ ∧ k_ < w10.heap.size) (fun _ hk => ⟨hk.2.1, hk.2.2.1⟩)) (show w.heap.size ≤ _ from below_size HB.out))
  have q_HB := Aside0.mk (below_step HB.out hb)
  have q_VB := Aside0.mk ((hb.block w.heap.size (blk_lt VB.out)).trans VB.out)
  have q_RS := Aside0.mk (Kd.R_below RS.out hb)
  have q_RX := Aside0.mk (Kd.S_below RX.out hb)
  have q_RG := Aside0.mk (Kd.R_below RG.out hb)
  clear HB VB RS RX RG
  have HB := q_HB
  have VB := q_VB
  have RS := q_RS
  have RX := q_RX
  have RG := q_RG
  clear q_HB q_VB q_RS q_RX q_RG
  have FA := n_
  clear n_ ho hb
  go_wp2_with (fail)
  go_at_call 13
  refine (laws_eqFeatureS.calls k X_RX d_RX x X_FA d_FA x true _ (Kd.S_reads' RX.out).2.2 (Kd.S_reads' RX.out).2.1 (Kd.S_reads' FA.out).2.2 (Kd.S_reads' FA.out).2.1 HE2_.out).mono ?_
  rintro _ w11 ⟨rfl, hb⟩
  have z11 := Aside0.mk (show w10.heap.size ≤ w11.heap.size from below_size hb)
  have q_HB := Aside0.mk (below_step HB.out hb)
  have q_VB := Aside0.mk ((hb.block w.heap.size (blk_lt VB.out)).trans VB.out)
  have q_RS := Aside0.mk (Kd.R_below RS.out hb)
  have q_RX := Aside0.mk (Kd.S_below RX.out hb)
  have q_RG := Aside0.mk (Kd.R_below RG.out hb)
  have q_FA := Aside0.mk (Kd.S_below FA.out hb)
  clear HB VB RS RX RG FA
  have HB := q_HB
  have VB := q_VB
  have RS := q_RS
  have RX := q_RX
  have RG := q_RG
  have FA := q_FA
  clear q_HB q_VB q_RS q_RX q_RG q_FA
  clear hb
  clear FA
  go_wp2_with (fail)
  go_at_call 15
  refine (laws_markFeatureS.calls (fun k_ => w5.heap.size ≤ k_ ∧ k_ < w6.heap.size) (.slice X_RX x.length d_RX) x 1 m1 w _ HB.out (Kd.S_R RX.out) HM1_.out).mono ?_
  rintro _ w12 ⟨rfl, hb, hk⟩
  have hz := Aside0.mk (show True from trivial)
  have q_HB := Aside0.mk hb
  have q_VB := Aside0.mk ((hk.2 w.heap.size (blk_lt VB.out) (fun h => by have h1 := h.1; have := zV.out; have := z1.out; have := z2.out; have := z3.out; have := z4.out; have := z5.out; omega)).trans VB.out)
  have q_RS := Aside0.mk (Kd.R_step RS.out (fun k_ hk_ hlt => hk.2 k_ hlt (fun h => by have h1 := hk_.1; have h2 := hk_.2; have h3 := h.1; have h4 := h.2; omega)))
  have q_RG := Aside0.mk (Kd.R_step RG.out (fun k_ hk_ hlt => hk.2 k_ hlt (fun h => by have h1 := hk_.1; have h2 := hk_.2; have h3 := h.1; have h4 := h.2; have := z7.out; omega)))
  clear HB VB RS RG RX
  have HB := q_HB
  have VB := q_VB
  have RS := q_RS
  have RG := q_RG
  clear hz hb hk q_HB q_VB q_RS q_RG
  go_wp2_with (fail)
  go_at_call 14
  refine (laws_eqIntS.calls k X_RG d_RG g X_RS d_RS s true _ (Kd.R_reads' RG.out).2.2 (Kd.R_reads' RG.out).2.1 (Kd.R_reads' RS.out).2.2 (Kd.R_reads' RS.out).2.1 HE1_.out).mono ?_
  rintro _ w13 ⟨rfl, hb⟩
  replace hb := hb.below
  have z13 := Aside0.mk (show w12.heap.size ≤ w13.heap.size from below_size hb)
  have q_HB := Aside0.mk (below_step HB.out hb)
  have q_VB := Aside0.mk ((hb.block w.heap.size (blk_lt VB.out)).trans VB.out)
  have q_RS := Aside0.mk (Kd.R_below RS.out hb)
  have q_RG := Aside0.mk (Kd.R_below RG.out hb)
  clear HB VB RS RG
  have HB := q_HB
  have VB := q_VB
  have RS := q_RS
  have RG := q_RG
  clear q_HB q_VB q_RS q_RG
  clear hb
  go_wp2_with (fail)
  go_at_call 16
  refine (laws_markIntS.calls k (fun k_ => w7.heap.size ≤ k_ ∧ k_ < w8.heap.size) (.slice X_RG g.length d_RG) g 1 q m3r w _ HB.out RG.out HM3_.out).mono ?_
  rintro _ w14 ⟨rfl, hR, hb, hk⟩
  have n_ := Aside0.mk (Kd.R_mono (Kd.R_tight rfl hR) (ok' := fun k_ => w7.heap.size ≤ k_ ∧ k_ < w8.heap.size) (fun k_ hk_ => RG.out.1 k_ hk_.symm))
  have hz := Aside0.mk (show True from trivial)
  have q_HB := Aside0.mk hb
  have q_VB := Aside0.mk ((hk.2 w.heap.size (blk_lt VB.out) (fun h => by have h1 := h.1; have := zV.out; have := z1.out; have := z2.out; have := z3.out; have := z4.out; have := z5.out; have := z6.out; have := z7.out; omega)).trans VB.out)
  have q_RS := Aside0.mk (Kd.R_step RS.out (fun k_ hk_ hlt => hk.2 k_ hlt (fun h => by have h1 := hk_.1; have h2 := hk_.2; have h3 := h.1; have h4 := h.2; have := z6.out; have := z7.out; omega)))
  clear HB VB RS RG
  have HB := q_HB
  have VB := q_VB
  have RS := q_RS
  clear hz hb hk hR q_HB q_VB q_RS
  have RG := n_
  clear n_
  have hlen := (Kd.R_reads' RG.out).1
  rw [hlen] at RG ⊢
  clear hlen
  go_wp2_with (fail)
  go_at_call 26
  refine (laws_heldIntS.calls k X_RG d_RG m3r 1 q _ (Kd.R_reads' RG.out).2.2 (Kd.R_reads' RG.out).2.1 HQ_.out).mono ?_
  rintro _ w15 ⟨rfl, hb⟩
  replace hb := hb.below
  have z15 := Aside0.mk (show w14.heap.size ≤ w15.heap.size from below_size hb)
  have q_HB := Aside0.mk (below_step HB.out hb)
  have q_VB := Aside0.mk ((hb.block w.heap.size (blk_lt VB.out)).trans VB.out)
  have q_RS := Aside0.mk (Kd.R_below RS.out hb)
  have q_RG := Aside0.mk (Kd.R_below RG.out hb)
  clear HB VB RS RG
  have HB := q_HB
  have VB := q_VB
  have RS := q_RS
  have RG := q_RG
  clear q_HB q_VB q_RS q_RG
  clear hb
  go_upto_region 24 with (fail)
  have hb := (below_drew1 (Below.refl w15.heap.size w15) : Below w15.heap.size w15 w15.drew)
  have q_HB := Aside0.mk (below_step HB.out hb)
  have q_VB := Aside0.mk ((hb.block w.heap.size (blk_lt VB.out)).trans VB.out)
  have q_RS := Aside0.mk (Kd.R_below RS.out hb)
  have q_RG := Aside0.mk (Kd.R_below RG.out hb)
  have HSD : Aside0 (w15.drew.cell? ⟨w.heap.size, 0, none⟩ = some (.int .i64 v0) ∧ w15.drew.cell? ⟨w.heap.size, 1, none⟩ = some (.int .i64 v1) ∧ w15.drew.cell? ⟨w.heap.size, 2, none⟩ = some (.int .i64 v2)) := ⟨⟨(blk_cell VB.out 0).trans rfl, (blk_cell VB.out 1).trans rfl, (blk_cell VB.out 2).trans rfl⟩⟩
  clear hb HB VB RS RG
  have HB := q_HB
  have VB := q_VB
  have RS := q_RS
  have RG := q_RG
  clear q_HB q_VB q_RS q_RG
  refine start_ (n := 6) (S := fun w' => w'.cell? ⟨w.heap.size, 0, none⟩ = some (.int .i64 v0) ∧ w'.cell? ⟨w.heap.size, 1, none⟩ = some (.int .i64 v1) ∧ w'.cell? ⟨w.heap.size, 2, none⟩ = some (.int .i64 v2)) (ds := []) #[false,false,false,false,false,false] (by kernel_rfl) rfl rfl HSD.out (fun hHeld => ?_)
  refine with_tabW lw.tab24 lw.bits24 (fun HT_ HW_ => ?_)
  have z16 := Aside0.mk (show w15.heap.size ≤ w15.drew.heap.size from Nat.le_refl _)
  generalize w15.drew = w16 at HB VB RS RG z16 HSD hHeld ⊢
  have SX : Aside0 (∀ w', Below w16.heap.size w16 w' → w'.cell? ⟨w.heap.size, 0, none⟩ = some (.int .i64 v0) ∧ w'.cell? ⟨w.heap.size, 1, none⟩ = some (.int .i64 v1) ∧ w'.cell? ⟨w.heap.size, 2, none⟩ = some (.int .i64 v2)) := ⟨fun w' hb => ⟨(hb.cell (World.block_lt_of_cell? _ _ hHeld.1)).trans hHeld.1, (hb.cell (World.block_lt_of_cell? _ _ hHeld.2.1)).trans hHeld.2.1, (hb.cell (World.block_lt_of_cell? _ _ hHeld.2.2)).trans hHeld.2.2⟩⟩
  have HBD := Aside0.mk (Below.refl w16.heap.size w16)
  refine pz HT_ 0 60 ?_
  refine tz3 HT_ HW_ hHeld 2 62 ?_
  refine oz HT_ 1 (some 61) (fun K hK => ?_)
  refine gz Tryz.func9 #[.slice A0 l0.length c0] ((laws_toFeatureS.calls k A0 c0 l0 x _ (Kd.C_below HR0.out HB.out) HC0.out HX_.out).mono ?_)
  rintro _ w17 ⟨v17, rfl, ho, hb⟩
  obtain ⟨X_FA, d_FA, e_⟩ := Kd.S_slice ho
  subst e_
  have z17 := Aside0.mk (show w16.heap.size ≤ w17.heap.size from below_size hb)
  have n_ := Aside0.mk (Kd.S_lower (Kd.S_mono (Kd.S_bound ho) (ok' := fun k_ => w16.heap.size ≤ k_ ∧ k_ < w17.heap.size) (fun _ hk => ⟨hk.2.1, hk.2.2.1⟩)) (show w.heap.size ≤ _ from below_size HB.out))
  have q_HB := Aside0.mk (below_step HB.out hb)
  have q_VB := Aside0.mk ((hb.block w.heap.size (blk_lt VB.out)).trans VB.out)
  have q_RS := Aside0.mk (Kd.R_below RS.out hb)
  have q_RG := Aside0.mk (Kd.R_below RG.out hb)
  have q_HBD := Aside0.mk (below_step HBD.out hb)
  clear HB VB RS RG HBD
  have HB := q_HB
  have VB := q_VB
  have RS := q_RS
  have RG := q_RG
  have HBD := q_HBD
  clear q_HB q_VB q_RS q_RG q_HBD
  have FA := n_
  clear n_ ho hb
  refine ⟨_, rfl, hK.out _ _ (SX.out _ HBD.out) (fun hHeld => ?_)⟩
  clear hK K
  refine nz 61 ?_
  refine oz HT_ 3 (some 63) (fun K hK => ?_)
  refine gz Tryz.func28 #[.agg #[.int .i64 v0, .int .i64 v1, .int .i64 v2]] ((laws_toLevel.calls v0 v1 v2 r0 r1 r2 _ HV_.out).mono ?_)
  rintro _ w18 ⟨rfl, hb⟩
  have z18 := Aside0.mk (show w17.heap.size ≤ w18.heap.size from below_size hb)
  have q_HB := Aside0.mk (below_step HB.out hb)
  have q_VB := Aside0.mk ((hb.block w.heap.size (blk_lt VB.out)).trans VB.out)
  have q_RS := Aside0.mk (Kd.R_below RS.out hb)
  have q_RG := Aside0.mk (Kd.R_below RG.out hb)
  have q_HBD := Aside0.mk (below_step HBD.out hb)
  have q_FA := Aside0.mk (Kd.S_below FA.out hb)
  clear HB VB RS RG HBD FA
  have HB := q_HB
  have VB := q_VB
  have RS := q_RS
  have RG := q_RG
  have HBD := q_HBD
  have FA := q_FA
  clear q_HB q_VB q_RS q_RG q_HBD q_FA
  clear hb
  refine ⟨_, rfl, hK.out _ _ (SX.out _ HBD.out) (fun hHeld => ?_)⟩
  clear hK K
  refine nz 63 ?_
  refine oz HT_ 4 (some 64) (fun K hK => ?_)
  refine gz Tryz.func29 #[.slice X_FA x.length d_FA, .agg #[.int .i64 r0, .int .i64 r1, .int .i64 r2]] ((impl_ShownIds.calls k X_FA d_FA x r0 r1 r2 g _ (Kd.S_reads' FA.out).2.2 (Kd.S_reads' FA.out).2.1 HG_.out).mono ?_)
  rintro _ w19 ⟨v19, rfl, ho, hb⟩
  obtain ⟨X_RH, d_RH, e_⟩ := Kd.R_slice ho
  subst e_
  have z19 := Aside0.mk (show w18.heap.size ≤ w19.heap.size from below_size hb)
  have n_ := Aside0.mk (Kd.R_lower (Kd.R_mono (Kd.R_bound ho) (ok' := fun k_ => w18.heap.size ≤ k_ ∧ k_ < w19.heap.size) (fun _ hk => ⟨hk.2.1, hk.2.2.1⟩)) (show w.heap.size ≤ _ from below_size HB.out))
  have q_HB := Aside0.mk (below_step HB.out hb)
  have q_VB := Aside0.mk ((hb.block w.heap.size (blk_lt VB.out)).trans VB.out)
  have q_RS := Aside0.mk (Kd.R_below RS.out hb)
  have q_RG := Aside0.mk (Kd.R_below RG.out hb)
  have q_HBD := Aside0.mk (below_step HBD.out hb)
  have q_FA := Aside0.mk (Kd.S_below FA.out hb)
  clear HB VB RS RG HBD FA
  have HB := q_HB
  have VB := q_VB
  have RS := q_RS
  have RG := q_RG
  have HBD := q_HBD
  have FA := q_FA
  clear q_HB q_VB q_RS q_RG q_HBD q_FA
  have RH := n_
  clear n_ ho hb
  refine ⟨_, rfl, hK.out _ _ (SX.out _ HBD.out) (fun hHeld => ?_)⟩
  clear hK K
  refine nz 64 ?_
  refine pz HT_ 5 12 ?_
  refine dz HT_ ?_
  clear HT_ HW_ SX HSD hHeld
  clear HBD
  clear FA
  go_wp2_with (fail)
  go_at_call 14
  refine (laws_eqIntS.calls k X_RH d_RH g X_RS d_RS s true _ (Kd.R_reads' RH.out).2.2 (Kd.R_reads' RH.out).2.1 (Kd.R_reads' RS.out).2.2 (Kd.R_reads' RS.out).2.1 HE1_.out).mono ?_
  rintro _ w20 ⟨rfl, hb⟩
  replace hb := hb.below
  have z20 := Aside0.mk (show w19.heap.size ≤ w20.heap.size from below_size hb)
  have q_HB := Aside0.mk (below_step HB.out hb)
  have q_VB := Aside0.mk ((hb.block w.heap.size (blk_lt VB.out)).trans VB.out)
  have q_RS := Aside0.mk (Kd.R_below RS.out hb)
  have q_RG := Aside0.mk (Kd.R_below RG.out hb)
  have q_RH := Aside0.mk (Kd.R_below RH.out hb)
  clear HB VB RS RG RH
  have HB := q_HB
  have VB := q_VB
  have RS := q_RS
  have RG := q_RG
  have RH := q_RH
  clear q_HB q_VB q_RS q_RG q_RH
  clear hb
  clear RH RS
  go_wp2_with (fail)
  go_at_call 26
  refine (laws_heldIntS.calls k X_RG d_RG m3r 1 q _ (Kd.R_reads' RG.out).2.2 (Kd.R_reads' RG.out).2.1 HQ_.out).mono ?_
  rintro _ w21 ⟨rfl, hb⟩
  replace hb := hb.below
  have z21 := Aside0.mk (show w20.heap.size ≤ w21.heap.size from below_size hb)
  have q_HB := Aside0.mk (below_step HB.out hb)
  have q_VB := Aside0.mk ((hb.block w.heap.size (blk_lt VB.out)).trans VB.out)
  have q_RG := Aside0.mk (Kd.R_below RG.out hb)
  clear HB VB RG
  have HB := q_HB
  have VB := q_VB
  have RG := q_RG
  clear q_HB q_VB q_RG
  clear hb
  go_wp2_with (fail)
  go_ret
  exact ⟨rfl, HB.out⟩
end
end Go.Proofs.YtkomgmgpgnjooaaGreat.PFnExactShownIds
