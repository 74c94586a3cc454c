-- Written by a program of this session's (evlaw.py).
import Derived.Test.YtkomgmgpgnjooaaGreatPFnExactUnplacedx4
namespace Go.Proofs.YtkomgmgpgnjooaaGreat.PFnExactUnplaced
open Go.RowKit Go.Proofs.YtkomgmgpgnjooaaGreatW.PrintWords Go.Proofs.YtkomgmgpgnjooaaGreatW.PrintLast Go.Proofs.YtkomgmgpgnjooaaGreatW.PrintMore Go.Proofs.YtkomgmgpgnjooaaGreatGeo Go.Proofs.YtkomgmgpgnjooaaGreatHand Go.Proofs.YtkomgmgpgnjooaaGreatMeet Go.Proofs.YtkomgmgpgnjooaaGreatQuiet Go.Proofs.YtkomgmgpgnjooaaGreatZ
open Go Go.Proofs.YtkomgmgpgnjooaaGreatEv
attribute [local go_sem] max2_int min2_int max_two min_two max_three min_three max_four min_four   -- for this text's walks alone
set_option linter.unusedVariables false
set_option linter.unusedSimpArgs false



set_option linter.unusedSimpArgs false

attribute [local go_sem high] eqA75
set_option linter.unusedVariables false
set_option linter.unusedSimpArgs false
set_option maxRecDepth 100000
noncomputable section
set_option maxHeartbeats 8000000 in
set_option maxRecDepth 100000 in
theorem laws_FnExactUnplaced.calls (k : Nat) (A0 : Option Addr) (c0 : Nat) (l0 : List S52)  (r : Bool) (w : World) (hr0 : Kd.C k52 w A0 l0.length l0) (hc0 : l0.length ≤ c0) (h : laws_FnExactUnplaced.f k l0  = some r) :
    Calls Tryz.prog 5 #[.slice A0 l0.length c0] w fun e w' => e = .returned (.bool r) ∧ Below w.heap.size w w' := by
  have HR0 := Aside0.mk hr0
  have HC0 := Aside0.mk hc0
  have HB := Aside0.mk (Below.refl w.heap.size w)
  clear hr0 hc0
  unfold laws_FnExactUnplaced.f at h
  obtain ⟨left, hA1, h⟩ := Option.bind_eq_some_iff.mp h
  have HL_ := Aside0.mk hA1
  clear hA1
  by_cases c1_ : left < 0
  · rw [if_pos c1_] at h
    obtain rfl := Option.some.inj h
    have c1b : decide (left < 0) = true := decide_eq_true c1_
    clear c1_ h
    go_enter Tryz.func5, Tryz.ntmps5
    go_wp2_with (fail)
    go_at_call 7
    refine (laws_szFeatureS.calls k A0 c0 l0 1048576 left _ (Kd.C_below HR0.out (by first | exact HB.out | exact below_alloc HB.out _)) HC0.out HL_.out).mono ?_
    rintro e w1 ⟨rfl, hb⟩
    have HB1 := Aside0.mk (below_step (by first | exact HB.out | exact below_alloc HB.out _) hb)
    clear hb
    go_wp2_with (fail)
    go_ret
    exact ⟨rfl, HB1.out⟩
  rw [if_neg c1_] at h
  have c1b : decide (left < 0) = false := decide_eq_false c1_
  clear c1_
  obtain ⟨x, h1, h⟩ := Option.bind_eq_some_iff.mp h
  obtain ⟨s, h3, h⟩ := Option.bind_eq_some_iff.mp h
  obtain ⟨g, h4, h⟩ := Option.bind_eq_some_iff.mp h
  obtain ⟨e1, h5, h⟩ := Option.bind_eq_some_iff.mp h
  obtain ⟨e2, h6, h⟩ := Option.bind_eq_some_iff.mp h
  obtain ⟨m1, h8, h⟩ := Option.bind_eq_some_iff.mp h
  obtain ⟨⟨m3, m3r⟩, h10, h⟩ := Option.bind_eq_some_iff.mp h
  obtain ⟨q, h11, h⟩ := Option.bind_eq_some_iff.mp h
  dsimp only at h
  by_cases hc : e1 = true ∧ e2 = true ∧ 0 ≤ m1 ∧ 0 ≤ q ∧ m3 = q
  case neg => rw [if_neg hc] at h; cases h
  rw [if_pos hc] at h
  obtain rfl := Option.some.inj h
  obtain ⟨rfl, rfl, hm1, hq, hmq⟩ := hc
  rw [hmq] at h10
  clear hmq
  have k1 : decide (m1 < 0) = false := decide_eq_false (by omega)
  have k2 : decide (q < 0) = false := decide_eq_false (by omega)
  have HX_ := Aside0.mk h1; have HS_ := Aside0.mk h3; have HG_ := Aside0.mk h4; have HE1_ := Aside0.mk h5; have HE2_ := Aside0.mk h6; have HM1_ := Aside0.mk h8; have HM3_ := Aside0.mk h10; have HQ_ := Aside0.mk h11
  clear h h1 h3 h4 h5 h6 h8 h10 h11 hm1 hq
  go_enter Tryz.func5, Tryz.ntmps5
  go_wp2_with (fail)
  go_at_call 7
  refine (laws_szFeatureS.calls k A0 c0 l0 1048576 left _ HR0.out HC0.out HL_.out).mono ?_
  rintro _ w1 ⟨rfl, hb⟩
  have z1 := Aside0.mk (show w.heap.size ≤ w1.heap.size from below_size hb)
  have q_HB := Aside0.mk (below_step HB.out hb)
  clear HB
  have HB := q_HB
  clear q_HB
  clear hb
  go_wp2_with (fail)
  go_at_call 9
  refine (laws_toFeatureS.calls k A0 c0 l0 x _ (Kd.C_below HR0.out HB.out) HC0.out HX_.out).mono ?_
  rintro _ w2 ⟨v2, rfl, ho, hb⟩
  obtain ⟨X_FA, d_FA, e_⟩ := Kd.S_slice ho
  subst e_
  have z2 := Aside0.mk (show w1.heap.size ≤ w2.heap.size from below_size hb)
  have n_ := Aside0.mk (Kd.S_lower (Kd.S_mono (Kd.S_bound ho) (ok' := fun k_ => w1.heap.size ≤ k_ ∧ k_ < w2.heap.size) (fun _ hk => ⟨hk.2.1, hk.2.2.1⟩)) (show w.heap.size ≤ _ from below_size HB.out))
  have q_HB := Aside0.mk (below_step HB.out hb)
  clear HB
  have HB := q_HB
  clear q_HB
  have FA := n_
  clear n_ ho hb
  go_wp2_with (fail)
  go_at_call 24
  refine (spec_Unplaced.calls k X_FA d_FA x  s _ (Kd.S_reads' FA.out).2.2 (Kd.S_reads' FA.out).2.1 HS_.out).mono ?_
  rintro _ w3 ⟨v3, rfl, ho, hb⟩
  obtain ⟨X_RS, d_RS, e_⟩ := Kd.R_slice ho
  subst e_
  have z3 := Aside0.mk (show w2.heap.size ≤ w3.heap.size from below_size hb)
  have n_ := Aside0.mk (Kd.R_lower (Kd.R_mono (Kd.R_bound ho) (ok' := fun k_ => w2.heap.size ≤ k_ ∧ k_ < w3.heap.size) (fun _ hk => ⟨hk.2.1, hk.2.2.1⟩)) (show w.heap.size ≤ _ from below_size HB.out))
  have q_HB := Aside0.mk (below_step HB.out hb)
  have q_FA := Aside0.mk (Kd.S_below FA.out hb)
  clear HB FA
  have HB := q_HB
  have FA := q_FA
  clear q_HB q_FA
  have RS := n_
  clear n_ ho hb
  clear FA
  go_wp2_with (fail)
  go_at_call 9
  refine (laws_toFeatureS.calls k A0 c0 l0 x _ (Kd.C_below HR0.out HB.out) HC0.out HX_.out).mono ?_
  rintro _ w4 ⟨v4, rfl, ho, hb⟩
  obtain ⟨X_RX, d_RX, e_⟩ := Kd.S_slice ho
  subst e_
  have z4 := Aside0.mk (show w3.heap.size ≤ w4.heap.size from below_size hb)
  have n_ := Aside0.mk (Kd.S_lower (Kd.S_mono (Kd.S_bound ho) (ok' := fun k_ => w3.heap.size ≤ k_ ∧ k_ < w4.heap.size) (fun _ hk => ⟨hk.2.1, hk.2.2.1⟩)) (show w.heap.size ≤ _ from below_size HB.out))
  have q_HB := Aside0.mk (below_step HB.out hb)
  have q_RS := Aside0.mk (Kd.R_below RS.out hb)
  clear HB RS
  have HB := q_HB
  have RS := q_RS
  clear q_HB q_RS
  have RX := n_
  clear n_ ho hb
  go_wp2_with (fail)
  go_at_call 25
  refine (impl_Unplaced.calls k X_RX d_RX x  g _ (Kd.S_reads' RX.out).2.2 (Kd.S_reads' RX.out).2.1 HG_.out).mono ?_
  rintro _ w5 ⟨v5, rfl, ho, hb⟩
  obtain ⟨X_RG, d_RG, e_⟩ := Kd.R_slice ho
  subst e_
  have z5 := Aside0.mk (show w4.heap.size ≤ w5.heap.size from below_size hb)
  have n_ := Aside0.mk (Kd.R_lower (Kd.R_mono (Kd.R_bound ho) (ok' := fun k_ => w4.heap.size ≤ k_ ∧ k_ < w5.heap.size) (fun _ hk => ⟨hk.2.1, hk.2.2.1⟩)) (show w.heap.size ≤ _ from below_size HB.out))
  have q_HB := Aside0.mk (below_step HB.out hb)
  have q_RS := Aside0.mk (Kd.R_below RS.out hb)
  have q_RX := Aside0.mk (Kd.S_below RX.out hb)
  clear HB RS RX
  have HB := q_HB
  have RS := q_RS
  have RX := q_RX
  clear q_HB q_RS q_RX
  have RG := n_
  clear n_ ho hb
  go_wp2_with (fail)
  go_at_call 14
  refine (laws_eqIntS.calls k X_RG d_RG g X_RS d_RS s true _ (Kd.R_reads' RG.out).2.2 (Kd.R_reads' RG.out).2.1 (Kd.R_reads' RS.out).2.2 (Kd.R_reads' RS.out).2.1 HE1_.out).mono ?_
  rintro _ w6 ⟨rfl, hb⟩
  replace hb := hb.below
  have z6 := Aside0.mk (show w5.heap.size ≤ w6.heap.size from below_size hb)
  have q_HB := Aside0.mk (below_step HB.out hb)
  have q_RS := Aside0.mk (Kd.R_below RS.out hb)
  have q_RX := Aside0.mk (Kd.S_below RX.out hb)
  have q_RG := Aside0.mk (Kd.R_below RG.out hb)
  clear HB RS RX RG
  have HB := q_HB
  have RS := q_RS
  have RX := q_RX
  have RG := q_RG
  clear q_HB q_RS q_RX q_RG
  clear hb
  go_wp2_with (fail)
  go_at_call 9
  refine (laws_toFeatureS.calls k A0 c0 l0 x _ (Kd.C_below HR0.out HB.out) HC0.out HX_.out).mono ?_
  rintro _ w7 ⟨v7, rfl, ho, hb⟩
  obtain ⟨X_FA, d_FA, e_⟩ := Kd.S_slice ho
  subst e_
  have z7 := Aside0.mk (show w6.heap.size ≤ w7.heap.size from below_size hb)
  have n_ := Aside0.mk (Kd.S_lower (Kd.S_mono (Kd.S_bound ho) (ok' := fun k_ => w6.heap.size ≤ k_ ∧ k_ < w7.heap.size) (fun _ hk => ⟨hk.2.1, hk.2.2.1⟩)) (show w.heap.size ≤ _ from below_size HB.out))
  have q_HB := Aside0.mk (below_step HB.out hb)
  have q_RS := Aside0.mk (Kd.R_below RS.out hb)
  have q_RX := Aside0.mk (Kd.S_below RX.out hb)
  have q_RG := Aside0.mk (Kd.R_below RG.out hb)
  clear HB RS RX RG
  have HB := q_HB
  have RS := q_RS
  have RX := q_RX
  have RG := q_RG
  clear q_HB q_RS q_RX q_RG
  have FA := n_
  clear n_ ho hb
  go_wp2_with (fail)
  go_at_call 13
  refine (laws_eqFeatureS.calls k X_RX d_RX x X_FA d_FA x true _ (Kd.S_reads' RX.out).2.2 (Kd.S_reads' RX.out).2.1 (Kd.S_reads' FA.out).2.2 (Kd.S_reads' FA.out).2.1 HE2_.out).mono ?_
  rintro _ w8 ⟨rfl, hb⟩
  have z8 := Aside0.mk (show w7.heap.size ≤ w8.heap.size from below_size hb)
  have q_HB := Aside0.mk (below_step HB.out hb)
  have q_RS := Aside0.mk (Kd.R_below RS.out hb)
  have q_RX := Aside0.mk (Kd.S_below RX.out hb)
  have q_RG := Aside0.mk (Kd.R_below RG.out hb)
  have q_FA := Aside0.mk (Kd.S_below FA.out hb)
  clear HB RS RX RG FA
  have HB := q_HB
  have RS := q_RS
  have RX := q_RX
  have RG := q_RG
  have FA := q_FA
  clear q_HB q_RS q_RX q_RG q_FA
  clear hb
  clear FA
  go_wp2_with (fail)
  go_at_call 15
  refine (laws_markFeatureS.calls (fun k_ => w3.heap.size ≤ k_ ∧ k_ < w4.heap.size) (.slice X_RX x.length d_RX) x 1 m1 w _ HB.out (Kd.S_R RX.out) HM1_.out).mono ?_
  rintro _ w9 ⟨rfl, hb, hk⟩
  have hz := Aside0.mk (show True from trivial)
  have q_HB := Aside0.mk hb
  have q_RS := Aside0.mk (Kd.R_step RS.out (fun k_ hk_ hlt => hk.2 k_ hlt (fun h => by have h1 := hk_.1; have h2 := hk_.2; have h3 := h.1; have h4 := h.2; omega)))
  have q_RG := Aside0.mk (Kd.R_step RG.out (fun k_ hk_ hlt => hk.2 k_ hlt (fun h => by have h1 := hk_.1; have h2 := hk_.2; have h3 := h.1; have h4 := h.2; omega)))
  clear HB RS RG RX
  have HB := q_HB
  have RS := q_RS
  have RG := q_RG
  clear hz hb hk q_HB q_RS q_RG
  go_wp2_with (fail)
  go_at_call 14
  refine (laws_eqIntS.calls k X_RG d_RG g X_RS d_RS s true _ (Kd.R_reads' RG.out).2.2 (Kd.R_reads' RG.out).2.1 (Kd.R_reads' RS.out).2.2 (Kd.R_reads' RS.out).2.1 HE1_.out).mono ?_
  rintro _ w10 ⟨rfl, hb⟩
  replace hb := hb.below
  have z10 := Aside0.mk (show w9.heap.size ≤ w10.heap.size from below_size hb)
  have q_HB := Aside0.mk (below_step HB.out hb)
  have q_RS := Aside0.mk (Kd.R_below RS.out hb)
  have q_RG := Aside0.mk (Kd.R_below RG.out hb)
  clear HB RS RG
  have HB := q_HB
  have RS := q_RS
  have RG := q_RG
  clear q_HB q_RS q_RG
  clear hb
  go_wp2_with (fail)
  go_at_call 16
  refine (laws_markIntS.calls k (fun k_ => w4.heap.size ≤ k_ ∧ k_ < w5.heap.size) (.slice X_RG g.length d_RG) g 1 q m3r w _ HB.out RG.out HM3_.out).mono ?_
  rintro _ w11 ⟨rfl, hR, hb, hk⟩
  have n_ := Aside0.mk (Kd.R_mono (Kd.R_tight rfl hR) (ok' := fun k_ => w4.heap.size ≤ k_ ∧ k_ < w5.heap.size) (fun k_ hk_ => RG.out.1 k_ hk_.symm))
  have hz := Aside0.mk (show True from trivial)
  have q_HB := Aside0.mk hb
  have q_RS := Aside0.mk (Kd.R_step RS.out (fun k_ hk_ hlt => hk.2 k_ hlt (fun h => by have h1 := hk_.1; have h2 := hk_.2; have h3 := h.1; have h4 := h.2; have := z4.out; omega)))
  clear HB RS RG
  have HB := q_HB
  have RS := q_RS
  clear hz hb hk hR q_HB q_RS
  have RG := n_
  clear n_
  have hlen := (Kd.R_reads' RG.out).1
  rw [hlen] at RG ⊢
  clear hlen
  go_wp2_with (fail)
  go_at_call 26
  refine (laws_heldIntS.calls k X_RG d_RG m3r 1 q _ (Kd.R_reads' RG.out).2.2 (Kd.R_reads' RG.out).2.1 HQ_.out).mono ?_
  rintro _ w12 ⟨rfl, hb⟩
  replace hb := hb.below
  have z12 := Aside0.mk (show w11.heap.size ≤ w12.heap.size from below_size hb)
  have q_HB := Aside0.mk (below_step HB.out hb)
  have q_RS := Aside0.mk (Kd.R_below RS.out hb)
  have q_RG := Aside0.mk (Kd.R_below RG.out hb)
  clear HB RS RG
  have HB := q_HB
  have RS := q_RS
  have RG := q_RG
  clear q_HB q_RS q_RG
  clear hb
  go_wp2_with (fail)
  go_at_call 9
  refine (laws_toFeatureS.calls k A0 c0 l0 x _ (Kd.C_below HR0.out HB.out) HC0.out HX_.out).mono ?_
  rintro _ w13 ⟨v13, rfl, ho, hb⟩
  obtain ⟨X_FA, d_FA, e_⟩ := Kd.S_slice ho
  subst e_
  have z13 := Aside0.mk (show w12.heap.size ≤ w13.heap.size from below_size hb)
  have n_ := Aside0.mk (Kd.S_lower (Kd.S_mono (Kd.S_bound ho) (ok' := fun k_ => w12.heap.size ≤ k_ ∧ k_ < w13.heap.size) (fun _ hk => ⟨hk.2.1, hk.2.2.1⟩)) (show w.heap.size ≤ _ from below_size HB.out))
  have q_HB := Aside0.mk (below_step HB.out hb)
  have q_RS := Aside0.mk (Kd.R_below RS.out hb)
  have q_RG := Aside0.mk (Kd.R_below RG.out hb)
  clear HB RS RG
  have HB := q_HB
  have RS := q_RS
  have RG := q_RG
  clear q_HB q_RS q_RG
  have FA := n_
  clear n_ ho hb
  go_wp2_with (fail)
  go_at_call 25
  refine (impl_Unplaced.calls k X_FA d_FA x  g _ (Kd.S_reads' FA.out).2.2 (Kd.S_reads' FA.out).2.1 HG_.out).mono ?_
  rintro _ w14 ⟨v14, rfl, ho, hb⟩
  obtain ⟨X_RH, d_RH, e_⟩ := Kd.R_slice ho
  subst e_
  have z14 := Aside0.mk (show w13.heap.size ≤ w14.heap.size from below_size hb)
  have n_ := Aside0.mk (Kd.R_lower (Kd.R_mono (Kd.R_bound ho) (ok' := fun k_ => w13.heap.size ≤ k_ ∧ k_ < w14.heap.size) (fun _ hk => ⟨hk.2.1, hk.2.2.1⟩)) (show w.heap.size ≤ _ from below_size HB.out))
  have q_HB := Aside0.mk (below_step HB.out hb)
  have q_RS := Aside0.mk (Kd.R_below RS.out hb)
  have q_RG := Aside0.mk (Kd.R_below RG.out hb)
  have q_FA := Aside0.mk (Kd.S_below FA.out hb)
  clear HB RS RG FA
  have HB := q_HB
  have RS := q_RS
  have RG := q_RG
  have FA := q_FA
  clear q_HB q_RS q_RG q_FA
  have RH := n_
  clear n_ ho hb
  clear FA
  go_wp2_with (fail)
  go_at_call 14
  refine (laws_eqIntS.calls k X_RH d_RH g X_RS d_RS s true _ (Kd.R_reads' RH.out).2.2 (Kd.R_reads' RH.out).2.1 (Kd.R_reads' RS.out).2.2 (Kd.R_reads' RS.out).2.1 HE1_.out).mono ?_
  rintro _ w15 ⟨rfl, hb⟩
  replace hb := hb.below
  have z15 := Aside0.mk (show w14.heap.size ≤ w15.heap.size from below_size hb)
  have q_HB := Aside0.mk (below_step HB.out hb)
  have q_RS := Aside0.mk (Kd.R_below RS.out hb)
  have q_RG := Aside0.mk (Kd.R_below RG.out hb)
  have q_RH := Aside0.mk (Kd.R_below RH.out hb)
  clear HB RS RG RH
  have HB := q_HB
  have RS := q_RS
  have RG := q_RG
  have RH := q_RH
  clear q_HB q_RS q_RG q_RH
  clear hb
  clear RH RS
  go_wp2_with (fail)
  go_at_call 26
  refine (laws_heldIntS.calls k X_RG d_RG m3r 1 q _ (Kd.R_reads' RG.out).2.2 (Kd.R_reads' RG.out).2.1 HQ_.out).mono ?_
  rintro _ w16 ⟨rfl, hb⟩
  replace hb := hb.below
  have z16 := Aside0.mk (show w15.heap.size ≤ w16.heap.size from below_size hb)
  have q_HB := Aside0.mk (below_step HB.out hb)
  have q_RG := Aside0.mk (Kd.R_below RG.out hb)
  clear HB RG
  have HB := q_HB
  have RG := q_RG
  clear q_HB q_RG
  clear hb
  go_wp2_with (fail)
  go_ret
  exact ⟨rfl, HB.out⟩
end
end Go.Proofs.YtkomgmgpgnjooaaGreat.PFnExactUnplaced
