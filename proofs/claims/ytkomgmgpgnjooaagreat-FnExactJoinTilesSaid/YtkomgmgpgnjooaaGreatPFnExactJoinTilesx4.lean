-- Written by a program of this session's (evlaw.py).
import Derived.Test.YtkomgmgpgnjooaaGreatPFnExactJoinTilesx3
namespace Go.Proofs.YtkomgmgpgnjooaaGreat.PFnExactJoinTiles
open Go.RowKit Go.Proofs.YtkomgmgpgnjooaaGreatW.PrintWords Go.Proofs.YtkomgmgpgnjooaaGreatW.PrintLast Go.Proofs.YtkomgmgpgnjooaaGreatW.PrintMore Go.Proofs.YtkomgmgpgnjooaaGreatGeo Go.Proofs.YtkomgmgpgnjooaaGreatHand Go.Proofs.YtkomgmgpgnjooaaGreatMeet Go.Proofs.YtkomgmgpgnjooaaGreatQuiet Go.Proofs.YtkomgmgpgnjooaaGreatZ Go.Proofs.YtkomgmgpgnjooaaGreatTwo
open Go Go.Proofs.YtkomgmgpgnjooaaGreatEv
attribute [local go_sem] max2_int min2_int max_two min_two max_three min_three max_four min_four   -- for this text's walks alone
set_option linter.unusedVariables false
set_option linter.unusedSimpArgs false



set_option linter.unusedSimpArgs false

attribute [local go_sem high] eqA75
attribute [local go_sem high] eqAP
set_option linter.unusedVariables false
set_option linter.unusedSimpArgs false
set_option maxRecDepth 100000
noncomputable section
theorem laws_toFeature.calls (k : Nat) (a0_0 : Int) (a0_1 : Int) (a0_2 : Int) (a0_3 : ByteArray) (A0_4 : Option Addr) (c0_4 : Nat) (l0_4 : List (S136)) (r1 : Int) (r2 : Int) (r3 : Int) (r4 : ByteArray) (r5 : List (S75)) (w : World) (hr0_4 : Kd.C k136 w A0_4 l0_4.length l0_4) (hc0_4 : l0_4.length ≤ c0_4) (h : laws_toFeature.f k a0_0 a0_1 a0_2 a0_3 l0_4 = some (r1, r2, r3, r4, r5)) :
  Calls Tryz.prog 33 #[.agg #[.int .i64 a0_0, .int .i64 a0_1, .int .i64 a0_2, .string a0_3, .slice A0_4 l0_4.length c0_4]] w fun e w' => ∃ v4_ : Value, e = .returned (.agg #[.int .i64 r1, .int .i64 r2, .int .i64 r3, .string r4, v4_]) ∧ Kd.R k75 75 w' w.heap.size (fun _ => True) v4_ r5 ∧ Below w.heap.size w w' := by
  refine (laws_toFeature.snd.calls _ _ _ (laws_toFeature.go h k (Nat.le_refl k)) w [.agg #[.int .i64 a0_0, .int .i64 a0_1, .int .i64 a0_2, .string a0_3, .slice A0_4 l0_4.length c0_4]] ⟨⟨_, rfl, (H52.K _ _ _).2 ⟨rfl, rfl, rfl, rfl, ⟨_, _, rfl, hc0_4, hr0_4⟩, trivial⟩⟩, trivial⟩).mono ?_
  rintro e w' ⟨v, rfl, hB, vs, oks, rfl, hR, _⟩
  obtain ⟨x0_, vs, o0_, oks, rfl, rfl, m0_, hR⟩ := rmsC hR
  obtain rfl := rmsN hR
  obtain ⟨y0, rfl, m0_⟩ := m0_
  have m0_ := (H59.M _ _ _ _ _).1 m0_
  match e0 : y0.toList, m0_ with
  | [d0_0, d0_1, d0_2, d0_3, d0_4], ⟨n0_0, n0_1, n0_2, n0_3, n0_4, _⟩ =>
  obtain rfl : y0 = #[d0_0, d0_1, d0_2, d0_3, d0_4] := by rw [← Array.toArray_toList (xs := y0), e0]
  obtain rfl := List.singleton_inj.1 (show [d0_0] = [Value.int .i64 r1] from n0_0)
  obtain rfl := List.singleton_inj.1 (show [d0_1] = [Value.int .i64 r2] from n0_1)
  obtain rfl := List.singleton_inj.1 (show [d0_2] = [Value.int .i64 r3] from n0_2)
  obtain rfl := List.singleton_inj.1 (show [d0_3] = [Value.string r4] from n0_3)
  obtain ⟨d0_4v, d0_4e, d0_4R⟩ := n0_4
  obtain rfl := List.singleton_inj.1 d0_4e
  exact ⟨_, rfl, Kd.R_mono d0_4R (fun _ _ => trivial), hB⟩
set_option maxHeartbeats 8000000 in
set_option maxRecDepth 100000 in
theorem laws_toFeatureS.calls (k : Nat) (A0 : Option Addr) (c0 : Nat) (l0 : List (S52)) (r : List (S59)) (w : World) (hr0 : Kd.C k52 w A0 l0.length l0) (hc0 : l0.length ≤ c0) (h : laws_toFeatureS.f k l0 = some r) :
  Calls Tryz.prog 9 #[.slice A0 l0.length c0] w fun e w' => ∃ v0_ : Value, e = .returned (v0_) ∧ Kd.S k59 59 w' w.heap.size (fun _ => True) v0_ r ∧ Below w.heap.size w w' := by
 have hu52 := Tryz.underlying52; have hu59 := Tryz.underlying59; have HR0 := Aside0.mk hr0; have HC0 := Aside0.mk hc0; clear hr0 hc0; have HB := Aside0.mk (Below.refl w.heap.size w); have H : (if 0 ≤ (l0.length : Int) then (if ((l0.length : Int) : Int).toNat ≤ 4398046511104 then (laws_toFeatureS.l0 k l0 (List.replicate ((l0.length : Int) : Int).toNat z59) 0) else (none)) else (none)) = some r := h; clear h
 by_cases c2 : 0 ≤ (l0.length : Int)
 ·rw [if_pos c2] at H; have c2b0 := eq_true c2; have c2b1 := decide_eq_true c2; clear c2
  by_cases c3 : ((l0.length : Int) : Int).toNat ≤ 4398046511104
  ·rw [if_pos c3] at H; have c3b0 := eq_true c3; have c3b1 := decide_eq_true c3; clear c3; obtain ⟨y499, hy499⟩ : ∃ y_ : List (S59), y_ = (List.replicate ((l0.length : Int) : Int).toNat z59) := ⟨_, rfl⟩
   replace H : (laws_toFeatureS.l0 k l0 y499 0) = some r := by first | (rw [hy499]; with_reducible exact H) | (have H2_ := (Option.bind_some _ _).symm.trans H; rw [hy499]; with_reducible exact H2_) | (have H2_ := (Option.bind_some _ _).symm.trans H; with_reducible exact H2_) | with_reducible exact H | (rw [hy499]; exact H) | exact H
   have Ny499 := Aside0.mk hy499; clear hy499; have H' := Aside0.mk H; clear H
   go_enter Tryz.func9, Tryz.ntmps9; go_wp2_with (first | ((with_reducible refine gate_dst (N := 7) rfl ?_); refine Kd.S_make k59 _ 59 rfl (N := 7) rfl 27 _ _ rfl (l0.length : Int) rfl rfl Tryz.underlying27 (.agg #[(.int .i64 0), (.int .i64 0), (.int .i64 0), (.string ⟨#[]⟩), (.slice none 0 0)]) 64 info59 rfl (by decide) (by omega) z59 (ok := fun _ => True) (okp := fun _ => True) (k59_mkM _ _ _ z59 (Kd.R_nil _ _ _ _ _)) (fun _ hk => hk) trivial (of_decide_eq_true az) (Nat.le_trans (Nat.mul_le_mul_right _ (of_decide_eq_true az : (l0.length : Int).toNat ≤ 4398046511104)) (by omega)) (Below.refl _ _) (Nat.le_refl _) ?_; intro v500 w4 ho5 hb hg_ hnew_; clear hg_ hnew_; (first | rw [← Ny499.out] at ho5 | (simp only [Int.reduceToNat] at ho5; rw [← Ny499.out] at ho5)); have HO501 := Aside0.mk (Kd.S_lower ho5 (below_size bz)); replace HB := Aside0.mk (below_step bz hb); clear hb ho5))
   go_loopg [4] k (fun kq v4 w' => ∃ (x3_1 : List (S59)) (x4_1 : Int), v4 = .int .i64 x4_1 ∧ Aside0 (laws_toFeatureS.l0 kq l0 x3_1 x4_1 = some r) ∧ Aside0 (kq ≤ k) ∧ Aside0 (Kd.S k59 59 w' w.heap.size (fun _ => True) v500 x3_1) ∧ Aside0 (Below w.heap.size w w'))
   case atStart => exact ⟨(y499), (0), rz, H', ⟨Nat.le_refl _⟩, ⟨by (with_reducible repeat (first | apply Kd.S_alloc | apply Kd.S_drewN | apply Kd.S_drew)); exact HO501.out⟩, ⟨bz⟩⟩
   case round =>
    clear H'; (try clear c2); (try clear c2b0); (try clear c2b1); (try clear p2); (try clear c3); (try clear c3b0); (try clear c3b1); obtain ⟨x3_1, x4_1, rfl, HA, HK1, HO_3, HB⟩ := hrel
    cases gk with
    | zero => exact absurd HA.out (by simp [laws_toFeatureS.l0])
    | succ k1 =>
     have H := HA.out; clear HA; simp only [laws_toFeatureS.l0] at H
     by_cases c6 : x4_1 < (l0.length : Int)
     ·rw [if_pos c6] at H; have c6b0 := decide_eq_true c6; clear c6
      by_cases c7 : 0 ≤ x4_1
      ·rw [if_pos c7] at H; have c7b0 := decide_eq_true c7; clear c7; replace H := Option.bind_eq_some_iff.mp H; obtain ⟨⟨t503, t504, t505, t506, t507⟩, A80, H⟩ := H; replace H : (if x4_1 < (x3_1.length : Int) then (laws_toFeatureS.l0 k1 l0 (x3_1.set (x4_1 : Int).toNat (⟨t503, t504, t505, t506, t507⟩ : S59)) (wrap64 (x4_1 + 1))) else (none)) = some r := H; have A8 := Aside0.mk A80; clear A80
       by_cases c9 : x4_1 < (x3_1.length : Int)
       ·rw [if_pos c9] at H; have c9b0 := decide_eq_true c9; clear c9; obtain ⟨y510, hy510⟩ : ∃ y_ : List (S59), y_ = (x3_1.set (x4_1 : Int).toNat (⟨t503, t504, t505, t506, t507⟩ : S59)) := ⟨_, rfl⟩
        replace H : (laws_toFeatureS.l0 k1 l0 y510 (wrap64 (x4_1 + 1))) = some r := by first | (rw [hy510]; with_reducible exact H) | (have H2_ := (Option.bind_some _ _).symm.trans H; rw [hy510]; with_reducible exact H2_) | (have H2_ := (Option.bind_some _ _).symm.trans H; with_reducible exact H2_) | with_reducible exact H | (rw [hy510]; exact H) | exact H
        have Ny510 := Aside0.mk hy510; clear hy510; have H' := Aside0.mk H; clear H; have p502 : 0 ≤ (x4_1 : Int) := of_decide_eq_true az; have q502 : x4_1 < (l0.length : Int) := of_decide_eq_true az; obtain ⟨ad502, A502_4, c502_4, e502, hx502_0, hx502_1, hx502_2, hx502_3, hx502_4, hl502_4, hi502_4⟩ := at_T52 HR0.out x4_1 p502 q502
        cases e502
        replace hx502_0 := xz HB hx502_0; replace hx502_1 := xz HB hx502_1; replace hx502_2 := xz HB hx502_2; replace hx502_3 := xz HB hx502_3; replace hx502_4 := xz HB hx502_4; have HR502_4 := Aside0.mk hi502_4; have HC502_4 := Aside0.mk hl502_4; clear hi502_4 hl502_4; replace p502 := eq_true p502; replace q502 := eq_true q502; go_wp2_with (first | ((with_reducible refine gt (some 20) rfl ?_); refine gc Tryz.func33 (laws_toFeature.calls k1 ((rd_T52 l0 x4_1).f0) ((rd_T52 l0 x4_1).f1) ((rd_T52 l0 x4_1).f2) ((rd_T52 l0 x4_1).f3) _ _ ((rd_T52 l0 x4_1).f4) t503 t504 t505 t506 t507 _ (cz (Kd.C_below HR502_4.out HB.out)) HC502_4.out A8.out) ?_; rintro e w11 ⟨v508, rfl, ho0, hb⟩; refine ⟨_, rfl, ?_⟩; replace HO_3 := Aside0.mk (Kd.S_elder' (by (with_reducible repeat (first | apply Kd.S_alloc | apply Kd.S_drewN | apply Kd.S_drew)); exact HO_3.out) (Kd.R_base ho0) hb); have HO509 := Aside0.mk (Kd.R_lower ho0 (below_size bz)); replace HB := Aside0.mk (below_step bz hb); (try clear hb); (try clear ho0); have p10 : 0 ≤ (x4_1 : Int) := of_decide_eq_true az; have q10 : (x4_1 : Int) < ((x3_1.length : Int) : Int) := of_decide_eq_true az; obtain ⟨go10, co10, eo10, gb10, gl10, cl10, HG10⟩ := Kd.S_form HO_3.out (by omega); (first | cases eo10 | (injection eo10 with ea_ en_ ec_; (first | subst ea_ | (injection ea_ with ea_; subst ea_)); subst ec_; clear en_)); have GB10 := Aside0.mk gb10; have GG10 := Aside0.mk HG10; clear gb10 gl10 HG10; obtain ⟨_, ce10, hcl10, hM10, hcc10, hfr10, _, _⟩ := Kd.S_elem HO_3.out z59 (x4_1 : Int) p10 q10; obtain ⟨ve10_4, rfl, ge10_4⟩ := k59_openM hM10; have hx10_0 : w11.cell? ⟨go10, (x4_1 : Int).toNat * 5, none⟩ = some (.int .i64 ((rd_T59 x3_1 x4_1).f0)) := hcc10 0 _ rfl; have hx10_1 : w11.cell? ⟨go10, (x4_1 : Int).toNat * 5 + 1, none⟩ = some (.int .i64 ((rd_T59 x3_1 x4_1).f1)) := hcc10 1 _ rfl; have hx10_2 : w11.cell? ⟨go10, (x4_1 : Int).toNat * 5 + 2, none⟩ = some (.int .i64 ((rd_T59 x3_1 x4_1).f2)) := hcc10 2 _ rfl; have hx10_3 : w11.cell? ⟨go10, (x4_1 : Int).toNat * 5 + 3, none⟩ = some (.string ((rd_T59 x3_1 x4_1).f3)) := hcc10 3 _ rfl; have hx10_4 : w11.cell? ⟨go10, (x4_1 : Int).toNat * 5 + 4, none⟩ = some (ve10_4) := hcc10 4 _ rfl; have hf10_0 : w11.frozen? ⟨go10, (x4_1 : Int).toNat * 5, none⟩ = false := hfr10 0; have hf10_1 : w11.frozen? ⟨go10, (x4_1 : Int).toNat * 5 + 1, none⟩ = false := hfr10 1; have hf10_2 : w11.frozen? ⟨go10, (x4_1 : Int).toNat * 5 + 2, none⟩ = false := hfr10 2; have hf10_3 : w11.frozen? ⟨go10, (x4_1 : Int).toNat * 5 + 3, none⟩ = false := hfr10 3; have hf10_4 : w11.frozen? ⟨go10, (x4_1 : Int).toNat * 5 + 4, none⟩ = false := hfr10 4; clear hcl10 hcc10 hfr10 hM10; replace p10 := eq_true p10; replace q10 := eq_true q10; have n_ := Aside0.mk (Kd.S_mono (ok' := (fun k_ => some k_ ≠ (v508 : Value).ownBlock)) HO_3.out (fun k_ hk => hk.2)); clear HO_3; have HO_3 := n_; clear n_; have HX12 := Aside0.mk (show Kd.S k59 59 w11 w.heap.size (fun k_ => ((fun _ => True)) k_ ∧ ¬ ((fun k_ => some k_ = (v508 : Value).ownBlock)) k_) (.slice (some ⟨go10, 0, none⟩) x3_1.length co10) x3_1 from (by (with_reducible repeat (first | apply Kd.S_alloc | apply Kd.S_drewN | apply Kd.S_drew)); exact Kd.S_mono HO_3.out (fun k_ hk => ⟨trivial, fun e_ => hk e_⟩))); obtain ⟨oki12, ce12, hcl12, hM12, hcc12, hfr12, hoki12, hH12⟩ := Kd.S_elem HX12.out z59 (x4_1 : Int) (of_decide_eq_true az) (by have h_ : (x4_1 : Int) < ((x3_1.length : Int) : Int) := of_decide_eq_true az; first | exact h_ | (have e_ := (Kd.S_reads' HO_3.out).1; omega) | simpa using h_); obtain ⟨ve12_4, rfl, ge12_4⟩ := k59_openM hM12; have HP12 := Kd.S_seg hH12 (of_decide_eq_true az) (by have h_ : (x4_1 : Int) < ((x3_1.length : Int) : Int) := of_decide_eq_true az; first | exact h_ | (have e_ := (Kd.S_reads' HO_3.out).1; omega) | simpa using h_) (seg := [.int .i64 t503, .int .i64 t504, .int .i64 t505, .string t506, v508]) (j := 0) (show 5 ≤ 5 from by decide) (x' := (⟨t503, t504, t505, t506, t507⟩ : S59)) (k59_mkM _ _ _ (⟨t503, t504, t505, t506, t507⟩ : S59) (Kd.R_mono (Kd.R_tight rfl (Kd.R_mono (ok' := fun k_ => ((fun _ => True)) k_ ∧ k_ ≠ go10) (Kd.R_apart' (HO509.out) (Kd.S_typed HO_3.out) (by decide)) (fun k_ hk => ⟨trivial, fun e_ => (hk.2) (by rw [e_]; rfl)⟩))) (fun _ h_ => Or.inr (h_)))) (fun _ hk => hk) (fun k_ hk_ => ((Kd.R_mono (ok' := fun k_ => ((fun _ => True)) k_ ∧ k_ ≠ go10) (Kd.R_apart' (HO509.out) (Kd.S_typed HO_3.out) (by decide)) (fun k_ hk => ⟨trivial, fun e_ => (hk.2) (by rw [e_]; rfl)⟩))).1 k_ hk_.symm); have hx12_0 := hcc12 0 _ rfl; (try simp only [show (k59).sz = 5 from rfl, Nat.mul_one, Nat.add_zero] at hx12_0); have hf12_0 := hfr12 0; (try simp only [show (k59).sz = 5 from rfl, Nat.mul_one, Nat.add_zero] at hf12_0); have hx12_1 := hcc12 1 _ rfl; (try simp only [show (k59).sz = 5 from rfl, Nat.mul_one, Nat.add_zero] at hx12_1); have hf12_1 := hfr12 1; (try simp only [show (k59).sz = 5 from rfl, Nat.mul_one, Nat.add_zero] at hf12_1); have hx12_2 := hcc12 2 _ rfl; (try simp only [show (k59).sz = 5 from rfl, Nat.mul_one, Nat.add_zero] at hx12_2); have hf12_2 := hfr12 2; (try simp only [show (k59).sz = 5 from rfl, Nat.mul_one, Nat.add_zero] at hf12_2); have hx12_3 := hcc12 3 _ rfl; (try simp only [show (k59).sz = 5 from rfl, Nat.mul_one, Nat.add_zero] at hx12_3); have hf12_3 := hfr12 3; (try simp only [show (k59).sz = 5 from rfl, Nat.mul_one, Nat.add_zero] at hf12_3); have hx12_4 := hcc12 4 _ rfl; (try simp only [show (k59).sz = 5 from rfl, Nat.mul_one, Nat.add_zero] at hx12_4); have hf12_4 := hfr12 4; (try simp only [show (k59).sz = 5 from rfl, Nat.mul_one, Nat.add_zero] at hf12_4); clear hcl12 hcc12 hfr12 hM12 hoki12 hH12; have HS12_4 : ∀ (a_ : Addr) (m_ : Mode) (W_ : World), (store a_ (v508) m_).run Tryz.prog W_ = stored Tryz.prog W_ a_ (v508) m_ := by (obtain ⟨_, _, e_⟩ := Kd.R_slice (HO509.out)); intro a_ m_ W_; rw [e_]; exact run_store _ _ _ _ _ rfl) | ((with_reducible refine gate_store (t := 59) (p := 21) rfl ?_); refine store_event (t := 59) (p := 21) (v := ?vo_w13) (w1 := (((((w11.setCell ⟨go10, (x4_1 : Int).toNat * 5, none⟩ (.int .i64 t503)).setCell ⟨go10, (x4_1 : Int).toNat * 5 + 1, none⟩ (.int .i64 t504)).setCell ⟨go10, (x4_1 : Int).toNat * 5 + 2, none⟩ (.int .i64 t505)).setCell ⟨go10, (x4_1 : Int).toNat * 5 + 3, none⟩ (.string t506)).setCell ⟨go10, (x4_1 : Int).toNat * 5 + 4, none⟩ (v508))) ?hg ?ho ?hn ?hr ?_; (case ho => rfl); (case hg => rfl); (case hn => rfl); (case hr => first | (go_simp; done) | (go_simp; rfl)); intro w13 hw; have hg : w11.grownBy w13 (some go10) := (by rw [hw]; exact HP12.2); have hp_ : Kd.S k59 59 w13 w.heap.size (fun _ => True) (.slice (some ⟨go10, 0, none⟩) x3_1.length co10) y510 := (by rw [hw, Ny510.out]; exact HP12.1); clear HP12; have n0_ := Aside0.mk (hp_); have n1_ := Aside0.mk ((by rw [hw]; exact below_set (below_set (below_set (below_set (below_set (HB.out) GB10.out) GB10.out) GB10.out) GB10.out) GB10.out : Below w.heap.size w w13)); clear HO_3; clear HB; clear HO509; have HO_3 := n0_; have HB := n1_; clear n0_ n1_; clear hg hw hp_))
        go_roundg k1
        case measure => have := HK1.out; omega
        case rel => exact ⟨(y510), (wrap64 (x4_1 + 1)), rz, H', ⟨by have := HK1.out; omega⟩, ⟨by (with_reducible repeat (first | apply Kd.S_alloc | apply Kd.S_drewN | apply Kd.S_drew)); exact HO_3.out⟩, ⟨bz⟩⟩
       ·rw [if_neg c9] at H
        exact absurd H (by simp)
      ·rw [if_neg c7] at H
       exact absurd H (by simp)
     ·rw [if_neg c6] at H; have c6b0 := decide_eq_false c6; clear c6; obtain rfl := Option.some.inj H; go_wp2; go_ret
      exact ⟨_, ez, by (with_reducible repeat (first | apply Kd.S_alloc | apply Kd.S_drewN | apply Kd.S_drew)); exact HO_3.out, bz⟩
  ·rw [if_neg c3] at H
   exact absurd H (by simp)
 ·rw [if_neg c2] at H
  exact absurd H (by simp)
def laws_toIntS.Fs : List (Spc env) := []
def laws_toIntS.fin : St eΓ → Option (HL eΓ [.l 3 (.i .i64)]) := finR env Tryz.f10.results.toList [.l 3 (.i .i64)]
def laws_toIntS.cut : Nat → Option (List (Lv SC)) := lk [(3, [⟨0, none, false⟩, ⟨3, none, false⟩, ⟨4, none, false⟩])]
def laws_toIntS.ret (r0 : List Int) : Option (HL eΓ [.l 3 (.i .i64)]) := some (r0, ())
def laws_toIntS.p3 (k : Nat) (x4 : Int) (x0 : List Int) (x3 : List Int) : Option (HL eΓ [.l 3 (.i .i64)]) := evM env laws_toIntS.Fs Tryz.f10.ntmps laws_toIntS.fin laws_toIntS.cut k [.code (sub_ [1, 1, 0, 1, 0, 0, 0, 0] (bodyOf Tryz.f10)), .code (sub_ [1, 1, 0, 1, 0, 0, 0, 1] (bodyOf Tryz.f10)), .code (sub_ [1, 1, 0, 1, 0, 0, 1] (bodyOf Tryz.f10)), .lp (sub_ [1, 1, 0, 1, 0, 0] (bodyOf Tryz.f10)), .blk 0, .code (sub_ [1, 1, 1] (bodyOf Tryz.f10))] (mkSt [(0, .c (.sl 0)), (3, .c (.sl 1)), (4, .c (.v (.int .i64 x4)))] [.row .ro 3 (.i .i64) x0, .row .own 3 (.i .i64) x3])
theorem laws_toIntS.e3 (k : Nat) (x4 : Int) (x0 : List Int) (x3 : List Int) : laws_toIntS.p3 (k + 1) x4 x0 x3 = if x4 < (x0.length : Int) then (if 0 ≤ x4 then (if x4 < (x0.length : Int) then (if 0 ≤ x4 then (if x4 < (x3.length : Int) then (laws_toIntS.p3 k (wrap64 (x4 + 1)) x0 (x3.set x4.toNat (x0.getD x4.toNat 0))) else none) else none) else none) else none) else (laws_toIntS.ret x3) := by kernel_rfl
def laws_toIntS.run (k : Nat) (h : HL eΓ [.l 3 (.i .i64)]) : Option (HL eΓ [.l 3 (.i .i64)]) := evF env laws_toIntS.Fs Tryz.f10 laws_toIntS.cut [.l 3 (.i .i64)] [.l 3 (.i .i64)] k h
theorem laws_toIntS.ef (k : Nat) (h0 : List Int) : laws_toIntS.run k (h0, ()) = if (h0.length : Int) = (h0.length : Int) then (if 0 ≤ (h0.length : Int) then (if (h0.length : Int).toNat * 8 ≤ 281474976710656 then (laws_toIntS.p3 k 0 h0 (List.replicate (h0.length : Int).toNat 0)) else none) else none) else none := by kernel_rfl
def laws_toIntS.toH (t : List Int) : HL eΓ [.l 3 (.i .i64)] := (t, ())
def laws_toIntS.spec : Spc env := ⟨10, [.l 3 (.i .i64)], [.l 3 (.i .i64)], laws_toIntS.run⟩
theorem laws_toIntS.snd : Snd env laws_toIntS.spec := evF_snd env_ok (sndN)
attribute [local irreducible] laws_toIntS.run
theorem laws_toIntS.rt (a0 : List Int) : laws_toIntS.ret a0 = some (laws_toIntS.toH (a0)) := rfl
theorem laws_toIntS.br (n : Nat) : (∀ K, n ≤ K → ∀ (x4 : Int) (x0 : List Int) (x3 : List Int) t, laws_toIntS.l0 n x0 x3 x4 = some t → laws_toIntS.p3 K x4 x0 x3 = some (laws_toIntS.toH t)) := by
  induction n using Nat.strongRecOn with
  | _ n ih =>
  intro K hK x4 x0 x3 t h
  all_goals (rcases n with _ | k)
  all_goals (try (exact nos h))
  all_goals (obtain ⟨K, rfl⟩ : ∃ q, K = q + 1 := ⟨K - 1, by omega⟩)
  all_goals (first | rw [laws_toIntS.e3])
  all_goals (simp only [laws_toIntS.l0] at h)
  repeat' (with_reducible first
   | exact nos h
   | (cases some_inj h; exact laws_toIntS.rt _)
   | exact (ih _ (by omega)) _ (by omega) _ _ _ _ h
   | (simp only [Option.bind_some] at h)
   | (refine ite_by h ?_ ?_ <;> (intro hc h; (try simp only [nrm] at hc)))
   | refine itT ?_
   | refine itF ?_
   | (simp only [nr2] at h ⊢)
   | (exfalso; omega))
theorem laws_toIntS.go {k : Nat} {l0 : List Int} {t} (h : laws_toIntS.f k l0 = some t) (K : Nat) (hK : k ≤ K) : laws_toIntS.run K (l0, ()) = some (laws_toIntS.toH t) := by
  rw [laws_toIntS.ef]
  (try dsimp only)
  unfold laws_toIntS.f at h
  repeat' (with_reducible first
   | exact nos h
   | (cases some_inj h; exact laws_toIntS.rt _)
   | exact (laws_toIntS.br _) _ (by omega) _ _ _ _ h
   | (simp only [Option.bind_some] at h)
   | (refine ite_by h ?_ ?_ <;> (intro hc h; (try simp only [nrm] at hc)))
   | refine itT ?_
   | refine itF ?_
   | (simp only [nr2] at h ⊢)
   | (exfalso; omega))
theorem laws_toIntS.calls (k : Nat) (A0 : Option Addr) (c0 : Nat) (l0 : List Int) (r : List Int) (w : World) (hr0 : Kd.C (Kd.int .i64) w A0 l0.length l0) (hc0 : l0.length ≤ c0) (h : laws_toIntS.f k l0 = some r) :
  Calls Tryz.prog 10 #[.slice A0 l0.length c0] w fun e w' => ∃ v0_ : Value, e = .returned (v0_) ∧ Kd.R (Kd.int .i64) 3 w' w.heap.size (fun _ => True) v0_ r ∧ Below w.heap.size w w' := by
  refine (laws_toIntS.snd.calls _ _ _ (laws_toIntS.go h k (Nat.le_refl k)) w [.slice A0 l0.length c0] ⟨⟨_, _, rfl, hc0, hr0⟩, trivial⟩).mono ?_
  rintro e w' ⟨v, rfl, hB, vs, oks, rfl, hR, _⟩
  obtain ⟨x0_, vs, o0_, oks, rfl, rfl, m0_, hR⟩ := rmsC hR
  obtain rfl := rmsN hR
  obtain ⟨x0_v, x0_e, x0_R⟩ := m0_
  obtain rfl := List.singleton_inj.1 x0_e
  exact ⟨_, rfl, Kd.R_mono x0_R (fun _ _ => trivial), hB⟩
def laws_eqPiece.Fs : List (Spc env) := []
def laws_eqPiece.cut : Nat → Option (List (Lv SC)) := lk []
def laws_eqPiece.ret (r0 : Bool) : Option (HL eΓ [.b]) := some (r0, ())
def laws_eqPiece.run (k : Nat) (h : HL eΓ [.st .s56, .st .s56]) : Option (HL eΓ [.b]) := evF env laws_eqPiece.Fs Tryz.f40 laws_eqPiece.cut [.st .s56, .st .s56] [.b] k h
theorem laws_eqPiece.ef (k : Nat) (h0 : S56) (h1 : S56) : laws_eqPiece.run k (h0, h1, ()) = if ¬ h0.f0 = h1.f0 then (laws_eqPiece.ret false) else (if ¬ h0.f1 = h1.f1 then (laws_eqPiece.ret false) else (laws_eqPiece.ret true)) := by kernel_rfl
def laws_eqPiece.toH (t : Bool) : HL eΓ [.b] := (t, ())
def laws_eqPiece.spec : Spc env := ⟨40, [.st .s56, .st .s56], [.b], laws_eqPiece.run⟩
def laws_eqPiece.ap {R : Type} (k : Nat) (h0 : S56) (h1 : S56) (K : Bool → Option R) : Option R := (laws_eqPiece.run k (h0, h1, ())).bind fun r => K (r.1 : Bool)
theorem laws_eqPiece.ap_of {R : Type} {k : Nat} {h0 : S56} {h1 : S56} {r0 : Bool} {K : Bool → Option R} (h : laws_eqPiece.run k (h0, h1, ()) = some (r0, ())) : laws_eqPiece.ap k h0 h1 K = K r0 := by unfold laws_eqPiece.ap; rw [h]; rfl
theorem laws_eqPiece.snd : Snd env laws_eqPiece.spec := evF_snd env_ok (sndN)
attribute [local irreducible] laws_eqPiece.run
theorem laws_eqPiece.rt (a0 : Bool) : laws_eqPiece.ret a0 = some (laws_eqPiece.toH (a0)) := rfl
theorem laws_eqPiece.go {a0_0 : Int} {a0_1 : Int} {a1_0 : Int} {a1_1 : Int} {t} (h : laws_eqPiece.f a0_0 a0_1 a1_0 a1_1 = some t) (K : Nat) : laws_eqPiece.run K ((⟨a0_0, a0_1⟩ : S56), (⟨a1_0, a1_1⟩ : S56), ()) = some (laws_eqPiece.toH t) := by
  rw [laws_eqPiece.ef]
  (try dsimp only)
  unfold laws_eqPiece.f at h
  repeat' (with_reducible first
   | exact nos h
   | (cases some_inj h; exact laws_eqPiece.rt _)
   | (simp only [Option.bind_some] at h)
   | (refine ite_by h ?_ ?_ <;> (intro hc h; (try simp only [nrm] at hc)))
   | refine itT ?_
   | refine itF ?_
   | (simp only [nr2] at h ⊢)
   | (exfalso; omega))
def laws_eqPieceS.Fs : List (Spc env) := [laws_eqPiece.spec]
def laws_eqPieceS.fin : St eΓ → Option (HL eΓ [.b]) := finR env Tryz.f12.results.toList [.b]
def laws_eqPieceS.cut : Nat → Option (List (Lv SC)) := lk [(4, [⟨0, none, false⟩, ⟨1, none, false⟩, ⟨5, none, false⟩])]
def laws_eqPieceS.ret (r0 : Bool) : Option (HL eΓ [.b]) := some (r0, ())
def laws_eqPieceS.p4 (k : Nat) (x5 : Int) (x0 : List S56) (x1 : List S56) : Option (HL eΓ [.b]) := evM env laws_eqPieceS.Fs Tryz.f12.ntmps laws_eqPieceS.fin laws_eqPieceS.cut k [.code (sub_ [1, 1, 0, 1, 0, 0, 0, 0] (bodyOf Tryz.f12)), .code (sub_ [1, 1, 0, 1, 0, 0, 0, 1] (bodyOf Tryz.f12)), .code (sub_ [1, 1, 0, 1, 0, 0, 1] (bodyOf Tryz.f12)), .lp (sub_ [1, 1, 0, 1, 0, 0] (bodyOf Tryz.f12)), .blk 0, .code (sub_ [1, 1, 1] (bodyOf Tryz.f12))] (mkSt [(0, .c (.sl 0)), (1, .c (.sl 1)), (5, .c (.v (.int .i64 x5)))] [.row .ro 56 (.st .s56) x0, .row .ro 56 (.st .s56) x1])
theorem laws_eqPieceS.e4 (k : Nat) (x5 : Int) (x0 : List S56) (x1 : List S56) : laws_eqPieceS.p4 (k + 1) x5 x0 x1 = if x5 < (x0.length : Int) then (if 0 ≤ x5 then (if x5 < (x0.length : Int) then (if 0 ≤ x5 then (if x5 < (x1.length : Int) then (laws_eqPiece.ap k (⟨(rd_T56 x0 x5).f0, (rd_T56 x0 x5).f1⟩ : S56) (⟨(rd_T56 x1 x5).f0, (rd_T56 x1 x5).f1⟩ : S56) fun r1 => if (!r1) = true then (laws_eqPieceS.ret false) else (laws_eqPieceS.p4 k (wrap64 (x5 + 1)) x0 x1)) else none) else none) else none) else none) else (laws_eqPieceS.ret true) := by kernel_rfl
def laws_eqPieceS.run (k : Nat) (h : HL eΓ [.l 56 (.st .s56), .l 56 (.st .s56)]) : Option (HL eΓ [.b]) := evF env laws_eqPieceS.Fs Tryz.f12 laws_eqPieceS.cut [.l 56 (.st .s56), .l 56 (.st .s56)] [.b] k h
theorem laws_eqPieceS.ef (k : Nat) (h0 : List S56) (h1 : List S56) : laws_eqPieceS.run k (h0, h1, ()) = if ¬ (h0.length : Int) = (h1.length : Int) then (laws_eqPieceS.ret false) else (laws_eqPieceS.p4 k 0 h0 h1) := by kernel_rfl
def laws_eqPieceS.toH (t : Bool) : HL eΓ [.b] := (t, ())
def laws_eqPieceS.spec : Spc env := ⟨12, [.l 56 (.st .s56), .l 56 (.st .s56)], [.b], laws_eqPieceS.run⟩
theorem laws_eqPieceS.snd : Snd env laws_eqPieceS.spec := evF_snd env_ok (sndC laws_eqPiece.snd (sndN))
attribute [local irreducible] laws_eqPieceS.run
theorem laws_eqPieceS.rt (a0 : Bool) : laws_eqPieceS.ret a0 = some (laws_eqPieceS.toH (a0)) := rfl
theorem laws_eqPieceS.br (n : Nat) : (∀ K, n ≤ K → ∀ (x5 : Int) (x0 : List S56) (x1 : List S56) t, laws_eqPieceS.l0 n x0 x1 x5 = some t → laws_eqPieceS.p4 K x5 x0 x1 = some (laws_eqPieceS.toH t)) := by
  induction n using Nat.strongRecOn with
  | _ n ih =>
  intro K hK x5 x0 x1 t h
  all_goals (rcases n with _ | k)
  all_goals (try (exact nos h))
  all_goals (obtain ⟨K, rfl⟩ : ∃ q, K = q + 1 := ⟨K - 1, by omega⟩)
  all_goals (first | rw [laws_eqPieceS.e4])
  all_goals (simp only [laws_eqPieceS.l0] at h)
  repeat' (with_reducible first
   | exact nos h
   | (cases some_inj h; exact laws_eqPieceS.rt _)
   | exact (ih _ (by omega)) _ (by omega) _ _ _ _ h
   | (simp only [Option.bind_some] at h)
   | (refine ite_by h ?_ ?_ <;> (intro hc h; (try simp only [nrm] at hc)))
   | refine itT ?_
   | refine itF ?_
   | (refine bind_by h (fun t ht h => ?_); refine (laws_eqPiece.ap_of (laws_eqPiece.go ht _)).trans ?_; (try dsimp only at h ⊢))
   | (simp only [nr2] at h ⊢)
   | (exfalso; omega))
theorem laws_eqPieceS.go {k : Nat} {l0 : List S56} {l1 : List S56} {t} (h : laws_eqPieceS.f k l0 l1 = some t) (K : Nat) (hK : k ≤ K) : laws_eqPieceS.run K (l0, l1, ()) = some (laws_eqPieceS.toH t) := by
  rw [laws_eqPieceS.ef]
  (try dsimp only)
  unfold laws_eqPieceS.f at h
  repeat' (with_reducible first
   | exact nos h
   | (cases some_inj h; exact laws_eqPieceS.rt _)
   | exact (laws_eqPieceS.br _) _ (by omega) _ _ _ _ h
   | (simp only [Option.bind_some] at h)
   | (refine ite_by h ?_ ?_ <;> (intro hc h; (try simp only [nrm] at hc)))
   | refine itT ?_
   | refine itF ?_
   | (refine bind_by h (fun t ht h => ?_); refine (laws_eqPiece.ap_of (laws_eqPiece.go ht _)).trans ?_; (try dsimp only at h ⊢))
   | (simp only [nr2] at h ⊢)
   | (exfalso; omega))
theorem laws_eqPieceS.calls (k : Nat) (A0 : Option Addr) (c0 : Nat) (l0 : List (S56)) (A1 : Option Addr) (c1 : Nat) (l1 : List (S56)) (r : Bool) (w : World) (hr0 : Kd.C k56 w A0 l0.length l0) (hc0 : l0.length ≤ c0) (hr1 : Kd.C k56 w A1 l1.length l1) (hc1 : l1.length ≤ c1) (h : laws_eqPieceS.f k l0 l1 = some r) :
  Calls Tryz.prog 12 #[.slice A0 l0.length c0, .slice A1 l1.length c1] w fun e w' => e = .returned (.bool r) ∧ Below w.heap.size w w' := by
  refine (laws_eqPieceS.snd.calls _ _ _ (laws_eqPieceS.go h k (Nat.le_refl k)) w [.slice A0 l0.length c0, .slice A1 l1.length c1] ⟨⟨_, _, rfl, hc0, hr0⟩, ⟨_, _, rfl, hc1, hr1⟩, trivial⟩).mono ?_
  rintro e w' ⟨v, rfl, hB, vs, oks, rfl, hR, _⟩
  obtain ⟨x0_, vs, o0_, oks, rfl, rfl, m0_, hR⟩ := rmsC hR
  obtain rfl := rmsN hR
  obtain rfl := List.singleton_inj.1 (show [x0_] = [Value.bool r] from m0_)
  exact ⟨rfl, hB⟩
def laws_eqPoint.Fs : List (Spc env) := []
def laws_eqPoint.cut : Nat → Option (List (Lv SC)) := lk []
def laws_eqPoint.ret (r0 : Bool) : Option (HL eΓ [.b]) := some (r0, ())
def laws_eqPoint.run (k : Nat) (h : HL eΓ [.st .s75, .st .s75]) : Option (HL eΓ [.b]) := evF env laws_eqPoint.Fs Tryz.f136 laws_eqPoint.cut [.st .s75, .st .s75] [.b] k h
theorem laws_eqPoint.ef (k : Nat) (h0 : S75) (h1 : S75) : laws_eqPoint.run k (h0, h1, ()) = if ¬ h0.f0 = h1.f0 then (laws_eqPoint.ret false) else (if ¬ h0.f1 = h1.f1 then (laws_eqPoint.ret false) else (laws_eqPoint.ret true)) := by kernel_rfl
def laws_eqPoint.toH (t : Bool) : HL eΓ [.b] := (t, ())
def laws_eqPoint.spec : Spc env := ⟨136, [.st .s75, .st .s75], [.b], laws_eqPoint.run⟩
def laws_eqPoint.ap {R : Type} (k : Nat) (h0 : S75) (h1 : S75) (K : Bool → Option R) : Option R := (laws_eqPoint.run k (h0, h1, ())).bind fun r => K (r.1 : Bool)
theorem laws_eqPoint.ap_of {R : Type} {k : Nat} {h0 : S75} {h1 : S75} {r0 : Bool} {K : Bool → Option R} (h : laws_eqPoint.run k (h0, h1, ()) = some (r0, ())) : laws_eqPoint.ap k h0 h1 K = K r0 := by unfold laws_eqPoint.ap; rw [h]; rfl
theorem laws_eqPoint.snd : Snd env laws_eqPoint.spec := evF_snd env_ok (sndN)
attribute [local irreducible] laws_eqPoint.run
theorem laws_eqPoint.rt (a0 : Bool) : laws_eqPoint.ret a0 = some (laws_eqPoint.toH (a0)) := rfl
theorem laws_eqPoint.go {a0_0 : Int} {a0_1 : Int} {a1_0 : Int} {a1_1 : Int} {t} (h : laws_eqPoint.f a0_0 a0_1 a1_0 a1_1 = some t) (K : Nat) : laws_eqPoint.run K ((⟨a0_0, a0_1⟩ : S75), (⟨a1_0, a1_1⟩ : S75), ()) = some (laws_eqPoint.toH t) := by
  rw [laws_eqPoint.ef]
  (try dsimp only)
  unfold laws_eqPoint.f at h
  repeat' (with_reducible first
   | exact nos h
   | (cases some_inj h; exact laws_eqPoint.rt _)
   | (simp only [Option.bind_some] at h)
   | (refine ite_by h ?_ ?_ <;> (intro hc h; (try simp only [nrm] at hc)))
   | refine itT ?_
   | refine itF ?_
   | (simp only [nr2] at h ⊢)
   | (exfalso; omega))
def laws_eqPointS.Fs : List (Spc env) := [laws_eqPoint.spec]
def laws_eqPointS.fin : St eΓ → Option (HL eΓ [.b]) := finR env Tryz.f82.results.toList [.b]
def laws_eqPointS.cut : Nat → Option (List (Lv SC)) := lk [(4, [⟨0, none, false⟩, ⟨1, none, false⟩, ⟨5, none, false⟩])]
def laws_eqPointS.ret (r0 : Bool) : Option (HL eΓ [.b]) := some (r0, ())
def laws_eqPointS.p4 (k : Nat) (x5 : Int) (x0 : List S75) (x1 : List S75) : Option (HL eΓ [.b]) := evM env laws_eqPointS.Fs Tryz.f82.ntmps laws_eqPointS.fin laws_eqPointS.cut k [.code (sub_ [1, 1, 0, 1, 0, 0, 0, 0] (bodyOf Tryz.f82)), .code (sub_ [1, 1, 0, 1, 0, 0, 0, 1] (bodyOf Tryz.f82)), .code (sub_ [1, 1, 0, 1, 0, 0, 1] (bodyOf Tryz.f82)), .lp (sub_ [1, 1, 0, 1, 0, 0] (bodyOf Tryz.f82)), .blk 0, .code (sub_ [1, 1, 1] (bodyOf Tryz.f82))] (mkSt [(0, .c (.sl 0)), (1, .c (.sl 1)), (5, .c (.v (.int .i64 x5)))] [.row .ro 75 (.st .s75) x0, .row .ro 75 (.st .s75) x1])
theorem laws_eqPointS.e4 (k : Nat) (x5 : Int) (x0 : List S75) (x1 : List S75) : laws_eqPointS.p4 (k + 1) x5 x0 x1 = if x5 < (x0.length : Int) then (if 0 ≤ x5 then (if x5 < (x0.length : Int) then (if 0 ≤ x5 then (if x5 < (x1.length : Int) then (laws_eqPoint.ap k (⟨(rd_T75 x0 x5).f0, (rd_T75 x0 x5).f1⟩ : S75) (⟨(rd_T75 x1 x5).f0, (rd_T75 x1 x5).f1⟩ : S75) fun r1 => if (!r1) = true then (laws_eqPointS.ret false) else (laws_eqPointS.p4 k (wrap64 (x5 + 1)) x0 x1)) else none) else none) else none) else none) else (laws_eqPointS.ret true) := by kernel_rfl
def laws_eqPointS.run (k : Nat) (h : HL eΓ [.l 75 (.st .s75), .l 75 (.st .s75)]) : Option (HL eΓ [.b]) := evF env laws_eqPointS.Fs Tryz.f82 laws_eqPointS.cut [.l 75 (.st .s75), .l 75 (.st .s75)] [.b] k h
theorem laws_eqPointS.ef (k : Nat) (h0 : List S75) (h1 : List S75) : laws_eqPointS.run k (h0, h1, ()) = if ¬ (h0.length : Int) = (h1.length : Int) then (laws_eqPointS.ret false) else (laws_eqPointS.p4 k 0 h0 h1) := by kernel_rfl
def laws_eqPointS.toH (t : Bool) : HL eΓ [.b] := (t, ())
def laws_eqPointS.spec : Spc env := ⟨82, [.l 75 (.st .s75), .l 75 (.st .s75)], [.b], laws_eqPointS.run⟩
def laws_eqPointS.ap {R : Type} (k : Nat) (h0 : List S75) (h1 : List S75) (K : Bool → Option R) : Option R := (laws_eqPointS.run k (h0, h1, ())).bind fun r => K (r.1 : Bool)
theorem laws_eqPointS.ap_of {R : Type} {k : Nat} {h0 : List S75} {h1 : List S75} {r0 : Bool} {K : Bool → Option R} (h : laws_eqPointS.run k (h0, h1, ()) = some (r0, ())) : laws_eqPointS.ap k h0 h1 K = K r0 := by unfold laws_eqPointS.ap; rw [h]; rfl
theorem laws_eqPointS.snd : Snd env laws_eqPointS.spec := evF_snd env_ok (sndC laws_eqPoint.snd (sndN))
attribute [local irreducible] laws_eqPointS.run
theorem laws_eqPointS.rt (a0 : Bool) : laws_eqPointS.ret a0 = some (laws_eqPointS.toH (a0)) := rfl
theorem laws_eqPointS.br (n : Nat) : (∀ K, n ≤ K → ∀ (x5 : Int) (x0 : List S75) (x1 : List S75) t, laws_eqPointS.l0 n x0 x1 x5 = some t → laws_eqPointS.p4 K x5 x0 x1 = some (laws_eqPointS.toH t)) := by
  induction n using Nat.strongRecOn with
  | _ n ih =>
  intro K hK x5 x0 x1 t h
  all_goals (rcases n with _ | k)
  all_goals (try (exact nos h))
  all_goals (obtain ⟨K, rfl⟩ : ∃ q, K = q + 1 := ⟨K - 1, by omega⟩)
  all_goals (first | rw [laws_eqPointS.e4])
  all_goals (simp only [laws_eqPointS.l0] at h)
  repeat' (with_reducible first
   | exact nos h
   | (cases some_inj h; exact laws_eqPointS.rt _)
   | exact (ih _ (by omega)) _ (by omega) _ _ _ _ h
   | (simp only [Option.bind_some] at h)
   | (refine ite_by h ?_ ?_ <;> (intro hc h; (try simp only [nrm] at hc)))
   | refine itT ?_
   | refine itF ?_
   | (refine bind_by h (fun t ht h => ?_); refine (laws_eqPoint.ap_of (laws_eqPoint.go ht _)).trans ?_; (try dsimp only at h ⊢))
   | (simp only [nr2] at h ⊢)
   | (exfalso; omega))
theorem laws_eqPointS.go {k : Nat} {l0 : List S75} {l1 : List S75} {t} (h : laws_eqPointS.f k l0 l1 = some t) (K : Nat) (hK : k ≤ K) : laws_eqPointS.run K (l0, l1, ()) = some (laws_eqPointS.toH t) := by
  rw [laws_eqPointS.ef]
  (try dsimp only)
  unfold laws_eqPointS.f at h
  repeat' (with_reducible first
   | exact nos h
   | (cases some_inj h; exact laws_eqPointS.rt _)
   | exact (laws_eqPointS.br _) _ (by omega) _ _ _ _ h
   | (simp only [Option.bind_some] at h)
   | (refine ite_by h ?_ ?_ <;> (intro hc h; (try simp only [nrm] at hc)))
   | refine itT ?_
   | refine itF ?_
   | (refine bind_by h (fun t ht h => ?_); refine (laws_eqPoint.ap_of (laws_eqPoint.go ht _)).trans ?_; (try dsimp only at h ⊢))
   | (simp only [nr2] at h ⊢)
   | (exfalso; omega))
def laws_eqFeature.Fs : List (Spc env) := [laws_eqPointS.spec]
def laws_eqFeature.cut : Nat → Option (List (Lv SC)) := lk []
def laws_eqFeature.ret (r0 : Bool) : Option (HL eΓ [.b]) := some (r0, ())
def laws_eqFeature.run (k : Nat) (h : HL eΓ [.st .s59, .st .s59]) : Option (HL eΓ [.b]) := evF env laws_eqFeature.Fs Tryz.f41 laws_eqFeature.cut [.st .s59, .st .s59] [.b] k h
theorem laws_eqFeature.ef (k : Nat) (h0 : S59) (h1 : S59) : laws_eqFeature.run k (h0, h1, ()) = if ¬ h0.f0 = h1.f0 then (laws_eqFeature.ret false) else (if ¬ h0.f1 = h1.f1 then (laws_eqFeature.ret false) else (if ¬ h0.f2 = h1.f2 then (laws_eqFeature.ret false) else (if ¬ h0.f3.toList = h1.f3.toList then (laws_eqFeature.ret false) else (laws_eqPointS.ap k h0.f4 h1.f4 fun r1 => if (!r1) = true then (laws_eqFeature.ret false) else (laws_eqFeature.ret true))))) := by kernel_rfl
def laws_eqFeature.toH (t : Bool) : HL eΓ [.b] := (t, ())
def laws_eqFeature.spec : Spc env := ⟨41, [.st .s59, .st .s59], [.b], laws_eqFeature.run⟩
def laws_eqFeature.ap {R : Type} (k : Nat) (h0 : S59) (h1 : S59) (K : Bool → Option R) : Option R := (laws_eqFeature.run k (h0, h1, ())).bind fun r => K (r.1 : Bool)
theorem laws_eqFeature.ap_of {R : Type} {k : Nat} {h0 : S59} {h1 : S59} {r0 : Bool} {K : Bool → Option R} (h : laws_eqFeature.run k (h0, h1, ()) = some (r0, ())) : laws_eqFeature.ap k h0 h1 K = K r0 := by unfold laws_eqFeature.ap; rw [h]; rfl
theorem laws_eqFeature.snd : Snd env laws_eqFeature.spec := evF_snd env_ok (sndC laws_eqPointS.snd (sndN))
attribute [local irreducible] laws_eqFeature.run
theorem laws_eqFeature.rt (a0 : Bool) : laws_eqFeature.ret a0 = some (laws_eqFeature.toH (a0)) := rfl
theorem laws_eqFeature.go {k : Nat} {a0_0 : Int} {a0_1 : Int} {a0_2 : Int} {a0_3 : ByteArray} {l0_4 : List S75} {a1_0 : Int} {a1_1 : Int} {a1_2 : Int} {a1_3 : ByteArray} {l1_4 : List S75} {t} (h : laws_eqFeature.f k a0_0 a0_1 a0_2 a0_3 l0_4 a1_0 a1_1 a1_2 a1_3 l1_4 = some t) (K : Nat) (hK : k ≤ K) : laws_eqFeature.run K ((⟨a0_0, a0_1, a0_2, a0_3, l0_4⟩ : S59), (⟨a1_0, a1_1, a1_2, a1_3, l1_4⟩ : S59), ()) = some (laws_eqFeature.toH t) := by
  rw [laws_eqFeature.ef]
  (try dsimp only)
  unfold laws_eqFeature.f at h
  repeat' (with_reducible first
   | exact nos h
   | (cases some_inj h; exact laws_eqFeature.rt _)
   | (simp only [Option.bind_some] at h)
   | (refine ite_by h ?_ ?_ <;> (intro hc h; (try simp only [nrm] at hc)))
   | refine itT ?_
   | refine itF ?_
   | (refine bind_by h (fun t ht h => ?_); refine (laws_eqPointS.ap_of (laws_eqPointS.go ht _ (by omega))).trans ?_; (try dsimp only at h ⊢))
   | (simp only [nr2] at h ⊢)
   | (exfalso; omega))
def laws_eqFeatureS.Fs : List (Spc env) := [laws_eqFeature.spec]
def laws_eqFeatureS.fin : St eΓ → Option (HL eΓ [.b]) := finR env Tryz.f13.results.toList [.b]
def laws_eqFeatureS.cut : Nat → Option (List (Lv SC)) := lk [(4, [⟨0, none, false⟩, ⟨1, none, false⟩, ⟨5, none, false⟩])]
def laws_eqFeatureS.ret (r0 : Bool) : Option (HL eΓ [.b]) := some (r0, ())
def laws_eqFeatureS.p4 (k : Nat) (x5 : Int) (x0 : List S59) (x1 : List S59) : Option (HL eΓ [.b]) := evM env laws_eqFeatureS.Fs Tryz.f13.ntmps laws_eqFeatureS.fin laws_eqFeatureS.cut k [.code (sub_ [1, 1, 0, 1, 0, 0, 0, 0] (bodyOf Tryz.f13)), .code (sub_ [1, 1, 0, 1, 0, 0, 0, 1] (bodyOf Tryz.f13)), .code (sub_ [1, 1, 0, 1, 0, 0, 1] (bodyOf Tryz.f13)), .lp (sub_ [1, 1, 0, 1, 0, 0] (bodyOf Tryz.f13)), .blk 0, .code (sub_ [1, 1, 1] (bodyOf Tryz.f13))] (mkSt [(0, .c (.sl 0)), (1, .c (.sl 1)), (5, .c (.v (.int .i64 x5)))] [.row .ro 59 (.st .s59) x0, .row .ro 59 (.st .s59) x1])
theorem laws_eqFeatureS.e4 (k : Nat) (x5 : Int) (x0 : List S59) (x1 : List S59) : laws_eqFeatureS.p4 (k + 1) x5 x0 x1 = if x5 < (x0.length : Int) then (if 0 ≤ x5 then (if x5 < (x0.length : Int) then (if 0 ≤ x5 then (if x5 < (x1.length : Int) then (laws_eqFeature.ap k (⟨(rd_T59 x0 x5).f0, (rd_T59 x0 x5).f1, (rd_T59 x0 x5).f2, (rd_T59 x0 x5).f3, (rd_T59 x0 x5).f4⟩ : S59) (⟨(rd_T59 x1 x5).f0, (rd_T59 x1 x5).f1, (rd_T59 x1 x5).f2, (rd_T59 x1 x5).f3, (rd_T59 x1 x5).f4⟩ : S59) fun r1 => if (!r1) = true then (laws_eqFeatureS.ret false) else (laws_eqFeatureS.p4 k (wrap64 (x5 + 1)) x0 x1)) else none) else none) else none) else none) else (laws_eqFeatureS.ret true) := by kernel_rfl
def laws_eqFeatureS.run (k : Nat) (h : HL eΓ [.l 59 (.st .s59), .l 59 (.st .s59)]) : Option (HL eΓ [.b]) := evF env laws_eqFeatureS.Fs Tryz.f13 laws_eqFeatureS.cut [.l 59 (.st .s59), .l 59 (.st .s59)] [.b] k h
theorem laws_eqFeatureS.ef (k : Nat) (h0 : List S59) (h1 : List S59) : laws_eqFeatureS.run k (h0, h1, ()) = if ¬ (h0.length : Int) = (h1.length : Int) then (laws_eqFeatureS.ret false) else (laws_eqFeatureS.p4 k 0 h0 h1) := by kernel_rfl
def laws_eqFeatureS.toH (t : Bool) : HL eΓ [.b] := (t, ())
def laws_eqFeatureS.spec : Spc env := ⟨13, [.l 59 (.st .s59), .l 59 (.st .s59)], [.b], laws_eqFeatureS.run⟩
theorem laws_eqFeatureS.snd : Snd env laws_eqFeatureS.spec := evF_snd env_ok (sndC laws_eqFeature.snd (sndN))
attribute [local irreducible] laws_eqFeatureS.run
theorem laws_eqFeatureS.rt (a0 : Bool) : laws_eqFeatureS.ret a0 = some (laws_eqFeatureS.toH (a0)) := rfl
theorem laws_eqFeatureS.br (n : Nat) : (∀ K, n ≤ K → ∀ (x5 : Int) (x0 : List S59) (x1 : List S59) t, laws_eqFeatureS.l0 n x0 x1 x5 = some t → laws_eqFeatureS.p4 K x5 x0 x1 = some (laws_eqFeatureS.toH t)) := by
  induction n using Nat.strongRecOn with
  | _ n ih =>
  intro K hK x5 x0 x1 t h
  all_goals (rcases n with _ | k)
  all_goals (try (exact nos h))
  all_goals (obtain ⟨K, rfl⟩ : ∃ q, K = q + 1 := ⟨K - 1, by omega⟩)
  all_goals (first | rw [laws_eqFeatureS.e4])
  all_goals (simp only [laws_eqFeatureS.l0] at h)
  repeat' (with_reducible first
   | exact nos h
   | (cases some_inj h; exact laws_eqFeatureS.rt _)
   | exact (ih _ (by omega)) _ (by omega) _ _ _ _ h
   | (simp only [Option.bind_some] at h)
   | (refine ite_by h ?_ ?_ <;> (intro hc h; (try simp only [nrm] at hc)))
   | refine itT ?_
   | refine itF ?_
   | (refine bind_by h (fun t ht h => ?_); refine (laws_eqFeature.ap_of (laws_eqFeature.go ht _ (by omega))).trans ?_; (try dsimp only at h ⊢))
   | (simp only [nr2] at h ⊢)
   | (exfalso; omega))
theorem laws_eqFeatureS.go {k : Nat} {l0 : List S59} {l1 : List S59} {t} (h : laws_eqFeatureS.f k l0 l1 = some t) (K : Nat) (hK : k ≤ K) : laws_eqFeatureS.run K (l0, l1, ()) = some (laws_eqFeatureS.toH t) := by
  rw [laws_eqFeatureS.ef]
  (try dsimp only)
  unfold laws_eqFeatureS.f at h
  repeat' (with_reducible first
   | exact nos h
   | (cases some_inj h; exact laws_eqFeatureS.rt _)
   | exact (laws_eqFeatureS.br _) _ (by omega) _ _ _ _ h
   | (simp only [Option.bind_some] at h)
   | (refine ite_by h ?_ ?_ <;> (intro hc h; (try simp only [nrm] at hc)))
   | refine itT ?_
   | refine itF ?_
   | (refine bind_by h (fun t ht h => ?_); refine (laws_eqFeature.ap_of (laws_eqFeature.go ht _ (by omega))).trans ?_; (try dsimp only at h ⊢))
   | (simp only [nr2] at h ⊢)
   | (exfalso; omega))
theorem laws_eqFeatureS.calls (k : Nat) (A0 : Option Addr) (c0 : Nat) (l0 : List (S59)) (A1 : Option Addr) (c1 : Nat) (l1 : List (S59)) (r : Bool) (w : World) (hr0 : Kd.C k59 w A0 l0.length l0) (hc0 : l0.length ≤ c0) (hr1 : Kd.C k59 w A1 l1.length l1) (hc1 : l1.length ≤ c1) (h : laws_eqFeatureS.f k l0 l1 = some r) :
  Calls Tryz.prog 13 #[.slice A0 l0.length c0, .slice A1 l1.length c1] w fun e w' => e = .returned (.bool r) ∧ Below w.heap.size w w' := by
  refine (laws_eqFeatureS.snd.calls _ _ _ (laws_eqFeatureS.go h k (Nat.le_refl k)) w [.slice A0 l0.length c0, .slice A1 l1.length c1] ⟨⟨_, _, rfl, hc0, hr0⟩, ⟨_, _, rfl, hc1, hr1⟩, trivial⟩).mono ?_
  rintro e w' ⟨v, rfl, hB, vs, oks, rfl, hR, _⟩
  obtain ⟨x0_, vs, o0_, oks, rfl, rfl, m0_, hR⟩ := rmsC hR
  obtain rfl := rmsN hR
  obtain rfl := List.singleton_inj.1 (show [x0_] = [Value.bool r] from m0_)
  exact ⟨rfl, hB⟩
set_option maxHeartbeats 8000000 in
set_option maxRecDepth 100000 in
theorem laws_FnExactJoinTiles.calls (k : Nat) (A0 : Option Addr) (c0 : Nat) (l0 : List S52) (A1 : Option Addr) (c1 : Nat) (l1 : List Int) (r : Bool) (w : World) (hr0 : Kd.C k52 w A0 l0.length l0) (hc0 : l0.length ≤ c0) (hr1 : Kd.C (Kd.int .i64) w A1 l1.length l1) (hc1 : l1.length ≤ c1) (h : laws_FnExactJoinTiles.f k l0 l1 = some r) :
    Calls Tryz.prog 3 #[.slice A0 l0.length c0, .slice A1 l1.length c1] w fun e w' => e = .returned (.bool r) ∧ Below w.heap.size w w' := by
  have HR0 := Aside0.mk hr0
  have HC0 := Aside0.mk hc0
  have HR1 := Aside0.mk hr1
  have HC1 := Aside0.mk hc1
  have HB := Aside0.mk (Below.refl w.heap.size w)
  clear hr0 hc0 hr1 hc1
  unfold laws_FnExactJoinTiles.f at h
  by_cases c0_ : 1048576 < l1.length
  · rw [if_pos c0_] at h
    obtain rfl := Option.some.inj h
    have c1_ : decide ((1048576 : Int) < (l1.length : Int)) = true := decide_eq_true (by omega)
    have c2_ := eq_true c0_
    clear c0_ h
    go_enter Tryz.func3, Tryz.ntmps3
    go_wp2_with (fail)
    go_ret
    exact ⟨rfl, HB.out⟩
  rw [if_neg c0_] at h
  have e1_ : decide ((1048576 : Int) < (l1.length : Int)) = false := decide_eq_false (by omega)
  have e2_ := eq_false c0_
  clear c0_
  obtain ⟨left, hA1, h⟩ := Option.bind_eq_some_iff.mp h
  have HL_ := Aside0.mk hA1
  clear hA1
  by_cases c1_ : left < 0
  · rw [if_pos c1_] at h
    obtain rfl := Option.some.inj h
    have c1b : decide (left < 0) = true := decide_eq_true c1_
    clear c1_ h
    go_enter Tryz.func3, Tryz.ntmps3
    go_wp2_with (fail)
    go_at_call 7
    refine (laws_szFeatureS.calls k A0 c0 l0 1048576 left _ HR0.out HC0.out HL_.out).mono ?_
    rintro e w1 ⟨rfl, hb⟩
    have HB1 := Aside0.mk hb
    clear hb
    go_wp2_with (fail)
    go_ret
    exact ⟨rfl, HB1.out⟩
  rw [if_neg c1_] at h
  have c1b : decide (left < 0) = false := decide_eq_false c1_
  clear c1_
  obtain ⟨x, h1, h⟩ := Option.bind_eq_some_iff.mp h
  obtain ⟨t, h2, h⟩ := Option.bind_eq_some_iff.mp h
  obtain ⟨s, h3, h⟩ := Option.bind_eq_some_iff.mp h
  obtain ⟨g, h4, h⟩ := Option.bind_eq_some_iff.mp h
  obtain ⟨e1, h5, h⟩ := Option.bind_eq_some_iff.mp h
  obtain ⟨e2, h6, h⟩ := Option.bind_eq_some_iff.mp h
  obtain ⟨e3, h7, h⟩ := Option.bind_eq_some_iff.mp h
  obtain ⟨m1, h8, h⟩ := Option.bind_eq_some_iff.mp h
  obtain ⟨⟨m2, m2r⟩, h9, h⟩ := Option.bind_eq_some_iff.mp h
  obtain ⟨⟨m3, m3r⟩, h10, h⟩ := Option.bind_eq_some_iff.mp h
  obtain ⟨q, h11, h⟩ := Option.bind_eq_some_iff.mp h
  dsimp only at h
  by_cases hc : e1 = true ∧ e2 = true ∧ e3 = true ∧ 0 ≤ m2 ∧ 0 ≤ q ∧ q = m3
  case neg => rw [if_neg hc] at h; cases h
  rw [if_pos hc] at h
  obtain rfl := Option.some.inj h
  obtain ⟨rfl, rfl, rfl, hm2, hq, rfl⟩ := hc
  have k1 : decide (m2 < 0) = false := decide_eq_false (by omega)
  have k2 : decide (q < 0) = false := decide_eq_false (by omega)
  have HX_ := Aside0.mk h1; have HT_ := Aside0.mk h2; have HS_ := Aside0.mk h3; have HG_ := Aside0.mk h4; have HE1_ := Aside0.mk h5; have HE2_ := Aside0.mk h6; have HE3_ := Aside0.mk h7; have HM1_ := Aside0.mk h8; have HM2_ := Aside0.mk h9; have HM3_ := Aside0.mk h10; have HQ_ := Aside0.mk h11
  clear h h1 h2 h3 h4 h5 h6 h7 h8 h9 h10 h11 hm2 hq
  go_enter Tryz.func3, Tryz.ntmps3
  go_wp2_with (fail)
  go_at_call 7
  refine (laws_szFeatureS.calls k A0 c0 l0 1048576 left _ HR0.out HC0.out HL_.out).mono ?_
  rintro _ w1 ⟨rfl, hb⟩
  have z1 := Aside0.mk (show w.heap.size ≤ w1.heap.size from below_size hb)
  have q_HB := Aside0.mk (below_step HB.out hb)
  clear HB
  have HB := q_HB
  clear q_HB
  clear hb
  go_wp2_with (fail)
  go_at_call 9
  refine (laws_toFeatureS.calls k A0 c0 l0 x _ (Kd.C_below HR0.out HB.out) HC0.out HX_.out).mono ?_
  rintro _ w2 ⟨v2, rfl, ho, hb⟩
  obtain ⟨X_FA, d_FA, e_⟩ := Kd.S_slice ho
  subst e_
  have z2 := Aside0.mk (show w1.heap.size ≤ w2.heap.size from below_size hb)
  have n_ := Aside0.mk (Kd.S_lower (Kd.S_mono (Kd.S_bound ho) (ok' := fun k_ => w1.heap.size ≤ k_ ∧ k_ < w2.heap.size) (fun _ hk => ⟨hk.2.1, hk.2.2.1⟩)) (show w.heap.size ≤ _ from below_size HB.out))
  have q_HB := Aside0.mk (below_step HB.out hb)
  clear HB
  have HB := q_HB
  clear q_HB
  have FA := n_
  clear n_ ho hb
  go_wp2_with (fail)
  go_at_call 10
  refine (laws_toIntS.calls k A1 c1 l1 t _ (Kd.C_below HR1.out HB.out) HC1.out HT_.out).mono ?_
  rintro _ w3 ⟨v3, rfl, ho, hb⟩
  obtain ⟨X_FB, d_FB, e_⟩ := Kd.R_slice ho
  subst e_
  have z3 := Aside0.mk (show w2.heap.size ≤ w3.heap.size from below_size hb)
  have n_ := Aside0.mk (Kd.R_lower (Kd.R_mono (Kd.R_bound ho) (ok' := fun k_ => w2.heap.size ≤ k_ ∧ k_ < w3.heap.size) (fun _ hk => ⟨hk.2.1, hk.2.2.1⟩)) (show w.heap.size ≤ _ from below_size HB.out))
  have q_HB := Aside0.mk (below_step HB.out hb)
  have q_FA := Aside0.mk (Kd.S_below FA.out hb)
  clear HB FA
  have HB := q_HB
  have FA := q_FA
  clear q_HB q_FA
  have FB := n_
  clear n_ ho hb
  go_wp2_with (fail)
  go_at_call 8
  refine (spec_JoinTiles.calls k X_FA d_FA x X_FB d_FB t s _ (Kd.S_reads' FA.out).2.2 (Kd.S_reads' FA.out).2.1 (Kd.R_reads' FB.out).2.2 (Kd.R_reads' FB.out).2.1 HS_.out).mono ?_
  rintro _ w4 ⟨v4, rfl, ho, hb⟩
  obtain ⟨X_RS, d_RS, e_⟩ := Kd.R_slice ho
  subst e_
  have z4 := Aside0.mk (show w3.heap.size ≤ w4.heap.size from below_size hb)
  have n_ := Aside0.mk (Kd.R_lower (Kd.R_mono (Kd.R_bound ho) (ok' := fun k_ => w3.heap.size ≤ k_ ∧ k_ < w4.heap.size) (fun _ hk => ⟨hk.2.1, hk.2.2.1⟩)) (show w.heap.size ≤ _ from below_size HB.out))
  have q_HB := Aside0.mk (below_step HB.out hb)
  have q_FA := Aside0.mk (Kd.S_below FA.out hb)
  have q_FB := Aside0.mk (Kd.R_below FB.out hb)
  clear HB FA FB
  have HB := q_HB
  have FA := q_FA
  have FB := q_FB
  clear q_HB q_FA q_FB
  have RS := n_
  clear n_ ho hb
  clear FA FB
  go_wp2_with (fail)
  go_at_call 9
  refine (laws_toFeatureS.calls k A0 c0 l0 x _ (Kd.C_below HR0.out HB.out) HC0.out HX_.out).mono ?_
  rintro _ w5 ⟨v5, rfl, ho, hb⟩
  obtain ⟨X_RX, d_RX, e_⟩ := Kd.S_slice ho
  subst e_
  have z5 := Aside0.mk (show w4.heap.size ≤ w5.heap.size from below_size hb)
  have n_ := Aside0.mk (Kd.S_lower (Kd.S_mono (Kd.S_bound ho) (ok' := fun k_ => w4.heap.size ≤ k_ ∧ k_ < w5.heap.size) (fun _ hk => ⟨hk.2.1, hk.2.2.1⟩)) (show w.heap.size ≤ _ from below_size HB.out))
  have q_HB := Aside0.mk (below_step HB.out hb)
  have q_RS := Aside0.mk (Kd.R_below RS.out hb)
  clear HB RS
  have HB := q_HB
  have RS := q_RS
  clear q_HB q_RS
  have RX := n_
  clear n_ ho hb
  go_wp2_with (fail)
  go_at_call 10
  refine (laws_toIntS.calls k A1 c1 l1 t _ (Kd.C_below HR1.out HB.out) HC1.out HT_.out).mono ?_
  rintro _ w6 ⟨v6, rfl, ho, hb⟩
  obtain ⟨X_RT, d_RT, e_⟩ := Kd.R_slice ho
  subst e_
  have z6 := Aside0.mk (show w5.heap.size ≤ w6.heap.size from below_size hb)
  have n_ := Aside0.mk (Kd.R_lower (Kd.R_mono (Kd.R_bound ho) (ok' := fun k_ => w5.heap.size ≤ k_ ∧ k_ < w6.heap.size) (fun _ hk => ⟨hk.2.1, hk.2.2.1⟩)) (show w.heap.size ≤ _ from below_size HB.out))
  have q_HB := Aside0.mk (below_step HB.out hb)
  have q_RS := Aside0.mk (Kd.R_below RS.out hb)
  have q_RX := Aside0.mk (Kd.S_below RX.out hb)
  clear HB RS RX
  have HB := q_HB
  have RS := q_RS
  have RX := q_RX
  clear q_HB q_RS q_RX
  have RT := n_
  clear n_ ho hb
  go_wp2_with (fail)
  go_at_call 11
  refine (impl_JoinTiles.calls k X_RX d_RX x X_RT d_RT t g _ (Kd.S_reads' RX.out).2.2 (Kd.S_reads' RX.out).2.1 (Kd.R_reads' RT.out).2.2 (Kd.R_reads' RT.out).2.1 HG_.out).mono ?_
  rintro _ w7 ⟨v7, rfl, ho, hb⟩
  obtain ⟨X_RG, d_RG, e_⟩ := Kd.R_slice ho
  subst e_
  have z7 := Aside0.mk (show w6.heap.size ≤ w7.heap.size from below_size hb)
  have n_ := Aside0.mk (Kd.R_lower (Kd.R_mono (Kd.R_bound ho) (ok' := fun k_ => w6.heap.size ≤ k_ ∧ k_ < w7.heap.size) (fun _ hk => ⟨hk.2.1, hk.2.2.1⟩)) (show w.heap.size ≤ _ from below_size HB.out))
  have q_HB := Aside0.mk (below_step HB.out hb)
  have q_RS := Aside0.mk (Kd.R_below RS.out hb)
  have q_RX := Aside0.mk (Kd.S_below RX.out hb)
  have q_RT := Aside0.mk (Kd.R_below RT.out hb)
  clear HB RS RX RT
  have HB := q_HB
  have RS := q_RS
  have RX := q_RX
  have RT := q_RT
  clear q_HB q_RS q_RX q_RT
  have RG := n_
  clear n_ ho hb
  go_wp2_with (fail)
  go_at_call 12
  refine (laws_eqPieceS.calls k X_RG d_RG g X_RS d_RS s true _ (Kd.R_reads' RG.out).2.2 (Kd.R_reads' RG.out).2.1 (Kd.R_reads' RS.out).2.2 (Kd.R_reads' RS.out).2.1 HE1_.out).mono ?_
  rintro _ w8 ⟨rfl, hb⟩
  have z8 := Aside0.mk (show w7.heap.size ≤ w8.heap.size from below_size hb)
  have q_HB := Aside0.mk (below_step HB.out hb)
  have q_RS := Aside0.mk (Kd.R_below RS.out hb)
  have q_RX := Aside0.mk (Kd.S_below RX.out hb)
  have q_RT := Aside0.mk (Kd.R_below RT.out hb)
  have q_RG := Aside0.mk (Kd.R_below RG.out hb)
  clear HB RS RX RT RG
  have HB := q_HB
  have RS := q_RS
  have RX := q_RX
  have RT := q_RT
  have RG := q_RG
  clear q_HB q_RS q_RX q_RT q_RG
  clear hb
  go_wp2_with (fail)
  go_at_call 9
  refine (laws_toFeatureS.calls k A0 c0 l0 x _ (Kd.C_below HR0.out HB.out) HC0.out HX_.out).mono ?_
  rintro _ w9 ⟨v9, rfl, ho, hb⟩
  obtain ⟨X_FA, d_FA, e_⟩ := Kd.S_slice ho
  subst e_
  have z9 := Aside0.mk (show w8.heap.size ≤ w9.heap.size from below_size hb)
  have n_ := Aside0.mk (Kd.S_lower (Kd.S_mono (Kd.S_bound ho) (ok' := fun k_ => w8.heap.size ≤ k_ ∧ k_ < w9.heap.size) (fun _ hk => ⟨hk.2.1, hk.2.2.1⟩)) (show w.heap.size ≤ _ from below_size HB.out))
  have q_HB := Aside0.mk (below_step HB.out hb)
  have q_RS := Aside0.mk (Kd.R_below RS.out hb)
  have q_RX := Aside0.mk (Kd.S_below RX.out hb)
  have q_RT := Aside0.mk (Kd.R_below RT.out hb)
  have q_RG := Aside0.mk (Kd.R_below RG.out hb)
  clear HB RS RX RT RG
  have HB := q_HB
  have RS := q_RS
  have RX := q_RX
  have RT := q_RT
  have RG := q_RG
  clear q_HB q_RS q_RX q_RT q_RG
  have FA := n_
  clear n_ ho hb
  go_wp2_with (fail)
  go_at_call 13
  refine (laws_eqFeatureS.calls k X_RX d_RX x X_FA d_FA x true _ (Kd.S_reads' RX.out).2.2 (Kd.S_reads' RX.out).2.1 (Kd.S_reads' FA.out).2.2 (Kd.S_reads' FA.out).2.1 HE2_.out).mono ?_
  rintro _ w10 ⟨rfl, hb⟩
  have z10 := Aside0.mk (show w9.heap.size ≤ w10.heap.size from below_size hb)
  have q_HB := Aside0.mk (below_step HB.out hb)
  have q_RS := Aside0.mk (Kd.R_below RS.out hb)
  have q_RX := Aside0.mk (Kd.S_below RX.out hb)
  have q_RT := Aside0.mk (Kd.R_below RT.out hb)
  have q_RG := Aside0.mk (Kd.R_below RG.out hb)
  have q_FA := Aside0.mk (Kd.S_below FA.out hb)
  clear HB RS RX RT RG FA
  have HB := q_HB
  have RS := q_RS
  have RX := q_RX
  have RT := q_RT
  have RG := q_RG
  have FA := q_FA
  clear q_HB q_RS q_RX q_RT q_RG q_FA
  clear hb
  clear FA
  go_wp2_with (fail)
  go_at_call 10
  refine (laws_toIntS.calls k A1 c1 l1 t _ (Kd.C_below HR1.out HB.out) HC1.out HT_.out).mono ?_
  rintro _ w11 ⟨v11, rfl, ho, hb⟩
  obtain ⟨X_FA, d_FA, e_⟩ := Kd.R_slice ho
  subst e_
  have z11 := Aside0.mk (show w10.heap.size ≤ w11.heap.size from below_size hb)
  have n_ := Aside0.mk (Kd.R_lower (Kd.R_mono (Kd.R_bound ho) (ok' := fun k_ => w10.heap.size ≤ k_ ∧ k_ < w11.heap.size) (fun _ hk => ⟨hk.2.1, hk.2.2.1⟩)) (show w.heap.size ≤ _ from below_size HB.out))
  have q_HB := Aside0.mk (below_step HB.out hb)
  have q_RS := Aside0.mk (Kd.R_below RS.out hb)
  have q_RX := Aside0.mk (Kd.S_below RX.out hb)
  have q_RT := Aside0.mk (Kd.R_below RT.out hb)
  have q_RG := Aside0.mk (Kd.R_below RG.out hb)
  clear HB RS RX RT RG
  have HB := q_HB
  have RS := q_RS
  have RX := q_RX
  have RT := q_RT
  have RG := q_RG
  clear q_HB q_RS q_RX q_RT q_RG
  have FA := n_
  clear n_ ho hb
  go_wp2_with (fail)
  go_at_call 14
  refine (laws_eqIntS.calls k X_RT d_RT t X_FA d_FA t true _ (Kd.R_reads' RT.out).2.2 (Kd.R_reads' RT.out).2.1 (Kd.R_reads' FA.out).2.2 (Kd.R_reads' FA.out).2.1 HE3_.out).mono ?_
  rintro _ w12 ⟨rfl, hb⟩
  replace hb := hb.below
  have z12 := Aside0.mk (show w11.heap.size ≤ w12.heap.size from below_size hb)
  have q_HB := Aside0.mk (below_step HB.out hb)
  have q_RS := Aside0.mk (Kd.R_below RS.out hb)
  have q_RX := Aside0.mk (Kd.S_below RX.out hb)
  have q_RT := Aside0.mk (Kd.R_below RT.out hb)
  have q_RG := Aside0.mk (Kd.R_below RG.out hb)
  have q_FA := Aside0.mk (Kd.R_below FA.out hb)
  clear HB RS RX RT RG FA
  have HB := q_HB
  have RS := q_RS
  have RX := q_RX
  have RT := q_RT
  have RG := q_RG
  have FA := q_FA
  clear q_HB q_RS q_RX q_RT q_RG q_FA
  clear hb
  clear FA
  go_wp2_with (fail)
  go_at_call 15
  refine (laws_markFeatureS.calls (fun k_ => w4.heap.size ≤ k_ ∧ k_ < w5.heap.size) (.slice X_RX x.length d_RX) x 1 m1 w _ HB.out (Kd.S_R RX.out) HM1_.out).mono ?_
  rintro _ w13 ⟨rfl, hb, hk⟩
  have hz := Aside0.mk (show True from trivial)
  have q_HB := Aside0.mk hb
  have q_RS := Aside0.mk (Kd.R_step RS.out (fun k_ hk_ hlt => hk.2 k_ hlt (fun h => by have h1 := hk_.1; have h2 := hk_.2; have h3 := h.1; have h4 := h.2; omega)))
  have q_RT := Aside0.mk (Kd.R_step RT.out (fun k_ hk_ hlt => hk.2 k_ hlt (fun h => by have h1 := hk_.1; have h2 := hk_.2; have h3 := h.1; have h4 := h.2; omega)))
  have q_RG := Aside0.mk (Kd.R_step RG.out (fun k_ hk_ hlt => hk.2 k_ hlt (fun h => by have h1 := hk_.1; have h2 := hk_.2; have h3 := h.1; have h4 := h.2; have := z6.out; omega)))
  clear HB RS RT RG RX
  have HB := q_HB
  have RS := q_RS
  have RT := q_RT
  have RG := q_RG
  clear hz hb hk q_HB q_RS q_RT q_RG
  go_wp2_with (fail)
  go_at_call 16
  refine (laws_markIntS.calls k (fun k_ => w5.heap.size ≤ k_ ∧ k_ < w6.heap.size) (.slice X_RT t.length d_RT) t m1 m2 m2r w _ HB.out RT.out HM2_.out).mono ?_
  rintro _ w14 ⟨rfl, hR, hb, hk⟩
  have n_ := Aside0.mk (Kd.R_mono (Kd.R_tight rfl hR) (ok' := fun k_ => w5.heap.size ≤ k_ ∧ k_ < w6.heap.size) (fun k_ hk_ => RT.out.1 k_ hk_.symm))
  have hz := Aside0.mk (show True from trivial)
  have q_HB := Aside0.mk hb
  have q_RS := Aside0.mk (Kd.R_step RS.out (fun k_ hk_ hlt => hk.2 k_ hlt (fun h => by have h1 := hk_.1; have h2 := hk_.2; have h3 := h.1; have h4 := h.2; have := z5.out; omega)))
  have q_RG := Aside0.mk (Kd.R_step RG.out (fun k_ hk_ hlt => hk.2 k_ hlt (fun h => by have h1 := hk_.1; have h2 := hk_.2; have h3 := h.1; have h4 := h.2; omega)))
  clear HB RS RG RT
  have HB := q_HB
  have RS := q_RS
  have RG := q_RG
  clear hz hb hk hR q_HB q_RS q_RG
  have RT := n_
  clear n_
  clear RT
  go_wp2_with (fail)
  go_at_call 12
  refine (laws_eqPieceS.calls k X_RG d_RG g X_RS d_RS s true _ (Kd.R_reads' RG.out).2.2 (Kd.R_reads' RG.out).2.1 (Kd.R_reads' RS.out).2.2 (Kd.R_reads' RS.out).2.1 HE1_.out).mono ?_
  rintro _ w15 ⟨rfl, hb⟩
  have z15 := Aside0.mk (show w14.heap.size ≤ w15.heap.size from below_size hb)
  have q_HB := Aside0.mk (below_step HB.out hb)
  have q_RS := Aside0.mk (Kd.R_below RS.out hb)
  have q_RG := Aside0.mk (Kd.R_below RG.out hb)
  clear HB RS RG
  have HB := q_HB
  have RS := q_RS
  have RG := q_RG
  clear q_HB q_RS q_RG
  clear hb
  go_wp2_with (fail)
  go_at_call 17
  refine (laws_markPieceS.calls k (fun k_ => w6.heap.size ≤ k_ ∧ k_ < w7.heap.size) (.slice X_RG g.length d_RG) g 1 q m3r w _ HB.out RG.out HM3_.out).mono ?_
  rintro _ w16 ⟨rfl, hR, hb, hk⟩
  have n_ := Aside0.mk (Kd.R_mono (Kd.R_tight rfl hR) (ok' := fun k_ => w6.heap.size ≤ k_ ∧ k_ < w7.heap.size) (fun k_ hk_ => RG.out.1 k_ hk_.symm))
  have hz := Aside0.mk (show True from trivial)
  have q_HB := Aside0.mk hb
  have q_RS := Aside0.mk (Kd.R_step RS.out (fun k_ hk_ hlt => hk.2 k_ hlt (fun h => by have h1 := hk_.1; have h2 := hk_.2; have h3 := h.1; have h4 := h.2; have := z5.out; have := z6.out; omega)))
  clear HB RS RG
  have HB := q_HB
  have RS := q_RS
  clear hz hb hk hR q_HB q_RS
  have RG := n_
  clear n_
  have hlen := (Kd.R_reads' RG.out).1
  rw [hlen] at RG ⊢
  clear hlen
  go_wp2_with (fail)
  go_at_call 18
  refine (laws_heldPieceS.calls k X_RG d_RG m3r 1 q _ (Kd.R_reads' RG.out).2.2 (Kd.R_reads' RG.out).2.1 HQ_.out).mono ?_
  rintro _ w17 ⟨rfl, hb⟩
  replace hb := hb.below
  have z17 := Aside0.mk (show w16.heap.size ≤ w17.heap.size from below_size hb)
  have q_HB := Aside0.mk (below_step HB.out hb)
  have q_RS := Aside0.mk (Kd.R_below RS.out hb)
  have q_RG := Aside0.mk (Kd.R_below RG.out hb)
  clear HB RS RG
  have HB := q_HB
  have RS := q_RS
  have RG := q_RG
  clear q_HB q_RS q_RG
  clear hb
  go_wp2_with (fail)
  go_at_call 9
  refine (laws_toFeatureS.calls k A0 c0 l0 x _ (Kd.C_below HR0.out HB.out) HC0.out HX_.out).mono ?_
  rintro _ w18 ⟨v18, rfl, ho, hb⟩
  obtain ⟨X_FA, d_FA, e_⟩ := Kd.S_slice ho
  subst e_
  have z18 := Aside0.mk (show w17.heap.size ≤ w18.heap.size from below_size hb)
  have n_ := Aside0.mk (Kd.S_lower (Kd.S_mono (Kd.S_bound ho) (ok' := fun k_ => w17.heap.size ≤ k_ ∧ k_ < w18.heap.size) (fun _ hk => ⟨hk.2.1, hk.2.2.1⟩)) (show w.heap.size ≤ _ from below_size HB.out))
  have q_HB := Aside0.mk (below_step HB.out hb)
  have q_RS := Aside0.mk (Kd.R_below RS.out hb)
  have q_RG := Aside0.mk (Kd.R_below RG.out hb)
  clear HB RS RG
  have HB := q_HB
  have RS := q_RS
  have RG := q_RG
  clear q_HB q_RS q_RG
  have FA := n_
  clear n_ ho hb
  go_wp2_with (fail)
  go_at_call 10
  refine (laws_toIntS.calls k A1 c1 l1 t _ (Kd.C_below HR1.out HB.out) HC1.out HT_.out).mono ?_
  rintro _ w19 ⟨v19, rfl, ho, hb⟩
  obtain ⟨X_FB, d_FB, e_⟩ := Kd.R_slice ho
  subst e_
  have z19 := Aside0.mk (show w18.heap.size ≤ w19.heap.size from below_size hb)
  have n_ := Aside0.mk (Kd.R_lower (Kd.R_mono (Kd.R_bound ho) (ok' := fun k_ => w18.heap.size ≤ k_ ∧ k_ < w19.heap.size) (fun _ hk => ⟨hk.2.1, hk.2.2.1⟩)) (show w.heap.size ≤ _ from below_size HB.out))
  have q_HB := Aside0.mk (below_step HB.out hb)
  have q_RS := Aside0.mk (Kd.R_below RS.out hb)
  have q_RG := Aside0.mk (Kd.R_below RG.out hb)
  have q_FA := Aside0.mk (Kd.S_below FA.out hb)
  clear HB RS RG FA
  have HB := q_HB
  have RS := q_RS
  have RG := q_RG
  have FA := q_FA
  clear q_HB q_RS q_RG q_FA
  have FB := n_
  clear n_ ho hb
  go_wp2_with (fail)
  go_at_call 11
  refine (impl_JoinTiles.calls k X_FA d_FA x X_FB d_FB t g _ (Kd.S_reads' FA.out).2.2 (Kd.S_reads' FA.out).2.1 (Kd.R_reads' FB.out).2.2 (Kd.R_reads' FB.out).2.1 HG_.out).mono ?_
  rintro _ w20 ⟨v20, rfl, ho, hb⟩
  obtain ⟨X_RH, d_RH, e_⟩ := Kd.R_slice ho
  subst e_
  have z20 := Aside0.mk (show w19.heap.size ≤ w20.heap.size from below_size hb)
  have n_ := Aside0.mk (Kd.R_lower (Kd.R_mono (Kd.R_bound ho) (ok' := fun k_ => w19.heap.size ≤ k_ ∧ k_ < w20.heap.size) (fun _ hk => ⟨hk.2.1, hk.2.2.1⟩)) (show w.heap.size ≤ _ from below_size HB.out))
  have q_HB := Aside0.mk (below_step HB.out hb)
  have q_RS := Aside0.mk (Kd.R_below RS.out hb)
  have q_RG := Aside0.mk (Kd.R_below RG.out hb)
  have q_FA := Aside0.mk (Kd.S_below FA.out hb)
  have q_FB := Aside0.mk (Kd.R_below FB.out hb)
  clear HB RS RG FA FB
  have HB := q_HB
  have RS := q_RS
  have RG := q_RG
  have FA := q_FA
  have FB := q_FB
  clear q_HB q_RS q_RG q_FA q_FB
  have RH := n_
  clear n_ ho hb
  clear FA FB
  go_wp2_with (fail)
  go_at_call 12
  refine (laws_eqPieceS.calls k X_RH d_RH g X_RS d_RS s true _ (Kd.R_reads' RH.out).2.2 (Kd.R_reads' RH.out).2.1 (Kd.R_reads' RS.out).2.2 (Kd.R_reads' RS.out).2.1 HE1_.out).mono ?_
  rintro _ w21 ⟨rfl, hb⟩
  have z21 := Aside0.mk (show w20.heap.size ≤ w21.heap.size from below_size hb)
  have q_HB := Aside0.mk (below_step HB.out hb)
  have q_RS := Aside0.mk (Kd.R_below RS.out hb)
  have q_RG := Aside0.mk (Kd.R_below RG.out hb)
  have q_RH := Aside0.mk (Kd.R_below RH.out hb)
  clear HB RS RG RH
  have HB := q_HB
  have RS := q_RS
  have RG := q_RG
  have RH := q_RH
  clear q_HB q_RS q_RG q_RH
  clear hb
  clear RH RS
  go_wp2_with (fail)
  go_at_call 18
  refine (laws_heldPieceS.calls k X_RG d_RG m3r 1 q _ (Kd.R_reads' RG.out).2.2 (Kd.R_reads' RG.out).2.1 HQ_.out).mono ?_
  rintro _ w22 ⟨rfl, hb⟩
  replace hb := hb.below
  have z22 := Aside0.mk (show w21.heap.size ≤ w22.heap.size from below_size hb)
  have q_HB := Aside0.mk (below_step HB.out hb)
  have q_RG := Aside0.mk (Kd.R_below RG.out hb)
  clear HB RG
  have HB := q_HB
  have RG := q_RG
  clear q_HB q_RG
  clear hb
  go_wp2_with (fail)
  go_ret
  exact ⟨rfl, HB.out⟩
end
end Go.Proofs.YtkomgmgpgnjooaaGreat.PFnExactJoinTiles
