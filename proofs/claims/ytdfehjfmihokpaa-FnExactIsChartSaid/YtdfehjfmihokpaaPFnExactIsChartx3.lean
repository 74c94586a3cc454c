-- Written by a program of this session's (evlaw.py).
import Derived.Test.YtdfehjfmihokpaaPFnExactIsChartx2
namespace Go.Proofs.Ytdfehjfmihokpaa.PFnExactIsChart
open Go.RowKit Go.Proofs.YtdfehjfmihokpaaW.PrintWords Go.Proofs.YtdfehjfmihokpaaW.PrintLast Go.Proofs.YtdfehjfmihokpaaW.PrintMore Go.Proofs.YtdfehjfmihokpaaGeo Go.Proofs.YtdfehjfmihokpaaHand Go.Proofs.YtdfehjfmihokpaaMeet Go.Proofs.YtdfehjfmihokpaaQuiet Go.Proofs.YtdfehjfmihokpaaZ
open Go Go.Proofs.YtdfehjfmihokpaaEv
attribute [local go_sem] max2_int min2_int max_two min_two max_three min_three max_four min_four   -- for this text's walks alone
set_option linter.unusedVariables false
set_option linter.unusedSimpArgs false



set_option linter.unusedSimpArgs false

attribute [local go_sem high] eqA82
set_option linter.unusedVariables false
set_option linter.unusedSimpArgs false
set_option maxRecDepth 100000
noncomputable section
set_option maxHeartbeats 8000000 in
set_option maxRecDepth 100000 in
theorem laws_toFeatureS.calls (k : Nat) (A0 : Option Addr) (c0 : Nat) (l0 : List (S24)) (r : List (S29)) (w : World) (hr0 : Kd.C k24 w A0 l0.length l0) (hc0 : l0.length ≤ c0) (h : laws_toFeatureS.f k l0 = some r) :
  Calls Try.prog 28 #[.slice A0 l0.length c0] w fun e w' => ∃ v0_ : Value, e = .returned (v0_) ∧ Kd.S k29 29 w' w.heap.size (fun _ => True) v0_ r ∧ Below w.heap.size w w' := by
 have hu24 := Try.underlying24; have hu29 := Try.underlying29; have HR0 := Aside0.mk hr0; have HC0 := Aside0.mk hc0; clear hr0 hc0; have HB := Aside0.mk (Below.refl w.heap.size w); have H : (if 0 ≤ (l0.length : Int) then (if ((l0.length : Int) : Int).toNat ≤ 4398046511104 then (laws_toFeatureS.l0 k l0 (List.replicate ((l0.length : Int) : Int).toNat z29) 0) else (none)) else (none)) = some r := h; clear h
 by_cases c2 : 0 ≤ (l0.length : Int)
 ·rw [if_pos c2] at H; have c2b0 := eq_true c2; have c2b1 := decide_eq_true c2; clear c2
  by_cases c3 : ((l0.length : Int) : Int).toNat ≤ 4398046511104
  ·rw [if_pos c3] at H; have c3b0 := eq_true c3; have c3b1 := decide_eq_true c3; clear c3; obtain ⟨y226, hy226⟩ : ∃ y_ : List (S29), y_ = (List.replicate ((l0.length : Int) : Int).toNat z29) := ⟨_, rfl⟩
   replace H : (laws_toFeatureS.l0 k l0 y226 0) = some r := by first | (rw [hy226]; with_reducible exact H) | (have H2_ := (Option.bind_some _ _).symm.trans H; rw [hy226]; with_reducible exact H2_) | (have H2_ := (Option.bind_some _ _).symm.trans H; with_reducible exact H2_) | with_reducible exact H | (rw [hy226]; exact H) | exact H
   have Ny226 := Aside0.mk hy226; clear hy226; have H' := Aside0.mk H; clear H
   go_enter Try.func28, Try.ntmps28; go_wp2_with (first | ((with_reducible refine gate_dst (N := 7) rfl ?_); refine Kd.S_make k29 _ 29 rfl (N := 7) rfl 39 _ _ rfl (l0.length : Int) rfl rfl Try.underlying39 (.agg #[(.int .i64 0), (.int .i64 0), (.int .i64 0), (.string ⟨#[]⟩), (.slice none 0 0)]) 64 info29 rfl (by decide) (by omega) z29 (ok := fun _ => True) (okp := fun _ => True) (k29_mkM _ _ _ z29 (Kd.R_nil _ _ _ _ _)) (fun _ hk => hk) trivial (of_decide_eq_true az) (Nat.le_trans (Nat.mul_le_mul_right _ (of_decide_eq_true az : (l0.length : Int).toNat ≤ 4398046511104)) (by omega)) (Below.refl _ _) (Nat.le_refl _) ?_; intro v227 w4 ho5 hb hg_ hnew_; clear hg_ hnew_; (first | rw [← Ny226.out] at ho5 | (simp only [Int.reduceToNat] at ho5; rw [← Ny226.out] at ho5)); have HO228 := Aside0.mk (Kd.S_lower ho5 (below_size bz)); replace HB := Aside0.mk (below_step bz hb); clear hb ho5))
   go_loopg [4] k (fun kq v4 w' => ∃ (x3_1 : List (S29)) (x4_1 : Int), v4 = .int .i64 x4_1 ∧ Aside0 (laws_toFeatureS.l0 kq l0 x3_1 x4_1 = some r) ∧ Aside0 (kq ≤ k) ∧ Aside0 (Kd.S k29 29 w' w.heap.size (fun _ => True) v227 x3_1) ∧ Aside0 (Below w.heap.size w w'))
   case atStart => exact ⟨(y226), (0), rz, H', ⟨Nat.le_refl _⟩, ⟨by (with_reducible repeat (first | apply Kd.S_alloc | apply Kd.S_drewN | apply Kd.S_drew)); exact HO228.out⟩, ⟨bz⟩⟩
   case round =>
    clear H'; (try clear c2); (try clear c2b0); (try clear c2b1); (try clear p2); (try clear c3); (try clear c3b0); (try clear c3b1); obtain ⟨x3_1, x4_1, rfl, HA, HK1, HO_3, HB⟩ := hrel
    cases gk with
    | zero => exact absurd HA.out (by simp [laws_toFeatureS.l0])
    | succ k1 =>
     have H := HA.out; clear HA; simp only [laws_toFeatureS.l0] at H
     by_cases c6 : x4_1 < (l0.length : Int)
     ·rw [if_pos c6] at H; have c6b0 := decide_eq_true c6; clear c6
      by_cases c7 : 0 ≤ x4_1
      ·rw [if_pos c7] at H; have c7b0 := decide_eq_true c7; clear c7; replace H := Option.bind_eq_some_iff.mp H; obtain ⟨⟨t230, t231, t232, t233, t234⟩, A80, H⟩ := H; replace H : (if x4_1 < (x3_1.length : Int) then (laws_toFeatureS.l0 k1 l0 (x3_1.set (x4_1 : Int).toNat (⟨t230, t231, t232, t233, t234⟩ : S29)) (wrap64 (x4_1 + 1))) else (none)) = some r := H; have A8 := Aside0.mk A80; clear A80
       by_cases c9 : x4_1 < (x3_1.length : Int)
       ·rw [if_pos c9] at H; have c9b0 := decide_eq_true c9; clear c9; obtain ⟨y237, hy237⟩ : ∃ y_ : List (S29), y_ = (x3_1.set (x4_1 : Int).toNat (⟨t230, t231, t232, t233, t234⟩ : S29)) := ⟨_, rfl⟩
        replace H : (laws_toFeatureS.l0 k1 l0 y237 (wrap64 (x4_1 + 1))) = some r := by first | (rw [hy237]; with_reducible exact H) | (have H2_ := (Option.bind_some _ _).symm.trans H; rw [hy237]; with_reducible exact H2_) | (have H2_ := (Option.bind_some _ _).symm.trans H; with_reducible exact H2_) | with_reducible exact H | (rw [hy237]; exact H) | exact H
        have Ny237 := Aside0.mk hy237; clear hy237; have H' := Aside0.mk H; clear H; have p229 : 0 ≤ (x4_1 : Int) := of_decide_eq_true az; have q229 : x4_1 < (l0.length : Int) := of_decide_eq_true az; obtain ⟨ad229, A229_4, c229_4, e229, hx229_0, hx229_1, hx229_2, hx229_3, hx229_4, hl229_4, hi229_4⟩ := at_T24 HR0.out x4_1 p229 q229
        cases e229
        replace hx229_0 := xz HB hx229_0; replace hx229_1 := xz HB hx229_1; replace hx229_2 := xz HB hx229_2; replace hx229_3 := xz HB hx229_3; replace hx229_4 := xz HB hx229_4; have HR229_4 := Aside0.mk hi229_4; have HC229_4 := Aside0.mk hl229_4; clear hi229_4 hl229_4; replace p229 := eq_true p229; replace q229 := eq_true q229; go_wp2_with (first | ((with_reducible refine gt (some 20) rfl ?_); refine gc Try.func17 (laws_toFeature.calls k1 ((rd_T24 l0 x4_1).f0) ((rd_T24 l0 x4_1).f1) ((rd_T24 l0 x4_1).f2) ((rd_T24 l0 x4_1).f3) _ _ ((rd_T24 l0 x4_1).f4) t230 t231 t232 t233 t234 _ (cz (Kd.C_below HR229_4.out HB.out)) HC229_4.out A8.out) ?_; rintro e w11 ⟨v235, rfl, ho0, hb⟩; refine ⟨_, rfl, ?_⟩; replace HO_3 := Aside0.mk (Kd.S_elder' (by (with_reducible repeat (first | apply Kd.S_alloc | apply Kd.S_drewN | apply Kd.S_drew)); exact HO_3.out) (Kd.R_base ho0) hb); have HO236 := Aside0.mk (Kd.R_lower ho0 (below_size bz)); replace HB := Aside0.mk (below_step bz hb); (try clear hb); (try clear ho0); have p10 : 0 ≤ (x4_1 : Int) := of_decide_eq_true az; have q10 : (x4_1 : Int) < ((x3_1.length : Int) : Int) := of_decide_eq_true az; obtain ⟨go10, co10, eo10, gb10, gl10, cl10, HG10⟩ := Kd.S_form HO_3.out (by omega); (first | cases eo10 | (injection eo10 with ea_ en_ ec_; (first | subst ea_ | (injection ea_ with ea_; subst ea_)); subst ec_; clear en_)); have GB10 := Aside0.mk gb10; have GG10 := Aside0.mk HG10; clear gb10 gl10 HG10; obtain ⟨_, ce10, hcl10, hM10, hcc10, hfr10, _, _⟩ := Kd.S_elem HO_3.out z29 (x4_1 : Int) p10 q10; obtain ⟨ve10_4, rfl, ge10_4⟩ := k29_openM hM10; have hx10_0 : w11.cell? ⟨go10, (x4_1 : Int).toNat * 5, none⟩ = some (.int .i64 ((rd_T29 x3_1 x4_1).f0)) := hcc10 0 _ rfl; have hx10_1 : w11.cell? ⟨go10, (x4_1 : Int).toNat * 5 + 1, none⟩ = some (.int .i64 ((rd_T29 x3_1 x4_1).f1)) := hcc10 1 _ rfl; have hx10_2 : w11.cell? ⟨go10, (x4_1 : Int).toNat * 5 + 2, none⟩ = some (.int .i64 ((rd_T29 x3_1 x4_1).f2)) := hcc10 2 _ rfl; have hx10_3 : w11.cell? ⟨go10, (x4_1 : Int).toNat * 5 + 3, none⟩ = some (.string ((rd_T29 x3_1 x4_1).f3)) := hcc10 3 _ rfl; have hx10_4 : w11.cell? ⟨go10, (x4_1 : Int).toNat * 5 + 4, none⟩ = some (ve10_4) := hcc10 4 _ rfl; have hf10_0 : w11.frozen? ⟨go10, (x4_1 : Int).toNat * 5, none⟩ = false := hfr10 0; have hf10_1 : w11.frozen? ⟨go10, (x4_1 : Int).toNat * 5 + 1, none⟩ = false := hfr10 1; have hf10_2 : w11.frozen? ⟨go10, (x4_1 : Int).toNat * 5 + 2, none⟩ = false := hfr10 2; have hf10_3 : w11.frozen? ⟨go10, (x4_1 : Int).toNat * 5 + 3, none⟩ = false := hfr10 3; have hf10_4 : w11.frozen? ⟨go10, (x4_1 : Int).toNat * 5 + 4, none⟩ = false := hfr10 4; clear hcl10 hcc10 hfr10 hM10; replace p10 := eq_true p10; replace q10 := eq_true q10; have n_ := Aside0.mk (Kd.S_mono (ok' := (fun k_ => some k_ ≠ (v235 : Value).ownBlock)) HO_3.out (fun k_ hk => hk.2)); clear HO_3; have HO_3 := n_; clear n_; have HX12 := Aside0.mk (show Kd.S k29 29 w11 w.heap.size (fun k_ => ((fun _ => True)) k_ ∧ ¬ ((fun k_ => some k_ = (v235 : Value).ownBlock)) k_) (.slice (some ⟨go10, 0, none⟩) x3_1.length co10) x3_1 from (by (with_reducible repeat (first | apply Kd.S_alloc | apply Kd.S_drewN | apply Kd.S_drew)); exact Kd.S_mono HO_3.out (fun k_ hk => ⟨trivial, fun e_ => hk e_⟩))); obtain ⟨oki12, ce12, hcl12, hM12, hcc12, hfr12, hoki12, hH12⟩ := Kd.S_elem HX12.out z29 (x4_1 : Int) (of_decide_eq_true az) (by have h_ : (x4_1 : Int) < ((x3_1.length : Int) : Int) := of_decide_eq_true az; first | exact h_ | (have e_ := (Kd.S_reads' HO_3.out).1; omega) | simpa using h_); obtain ⟨ve12_4, rfl, ge12_4⟩ := k29_openM hM12; have HP12 := Kd.S_seg hH12 (of_decide_eq_true az) (by have h_ : (x4_1 : Int) < ((x3_1.length : Int) : Int) := of_decide_eq_true az; first | exact h_ | (have e_ := (Kd.S_reads' HO_3.out).1; omega) | simpa using h_) (seg := [.int .i64 t230, .int .i64 t231, .int .i64 t232, .string t233, v235]) (j := 0) (show 5 ≤ 5 from by decide) (x' := (⟨t230, t231, t232, t233, t234⟩ : S29)) (k29_mkM _ _ _ (⟨t230, t231, t232, t233, t234⟩ : S29) (Kd.R_mono (Kd.R_tight rfl (Kd.R_mono (ok' := fun k_ => ((fun _ => True)) k_ ∧ k_ ≠ go10) (Kd.R_apart' (HO236.out) (Kd.S_typed HO_3.out) (by decide)) (fun k_ hk => ⟨trivial, fun e_ => (hk.2) (by rw [e_]; rfl)⟩))) (fun _ h_ => Or.inr (h_)))) (fun _ hk => hk) (fun k_ hk_ => ((Kd.R_mono (ok' := fun k_ => ((fun _ => True)) k_ ∧ k_ ≠ go10) (Kd.R_apart' (HO236.out) (Kd.S_typed HO_3.out) (by decide)) (fun k_ hk => ⟨trivial, fun e_ => (hk.2) (by rw [e_]; rfl)⟩))).1 k_ hk_.symm); have hx12_0 := hcc12 0 _ rfl; (try simp only [show (k29).sz = 5 from rfl, Nat.mul_one, Nat.add_zero] at hx12_0); have hf12_0 := hfr12 0; (try simp only [show (k29).sz = 5 from rfl, Nat.mul_one, Nat.add_zero] at hf12_0); have hx12_1 := hcc12 1 _ rfl; (try simp only [show (k29).sz = 5 from rfl, Nat.mul_one, Nat.add_zero] at hx12_1); have hf12_1 := hfr12 1; (try simp only [show (k29).sz = 5 from rfl, Nat.mul_one, Nat.add_zero] at hf12_1); have hx12_2 := hcc12 2 _ rfl; (try simp only [show (k29).sz = 5 from rfl, Nat.mul_one, Nat.add_zero] at hx12_2); have hf12_2 := hfr12 2; (try simp only [show (k29).sz = 5 from rfl, Nat.mul_one, Nat.add_zero] at hf12_2); have hx12_3 := hcc12 3 _ rfl; (try simp only [show (k29).sz = 5 from rfl, Nat.mul_one, Nat.add_zero] at hx12_3); have hf12_3 := hfr12 3; (try simp only [show (k29).sz = 5 from rfl, Nat.mul_one, Nat.add_zero] at hf12_3); have hx12_4 := hcc12 4 _ rfl; (try simp only [show (k29).sz = 5 from rfl, Nat.mul_one, Nat.add_zero] at hx12_4); have hf12_4 := hfr12 4; (try simp only [show (k29).sz = 5 from rfl, Nat.mul_one, Nat.add_zero] at hf12_4); clear hcl12 hcc12 hfr12 hM12 hoki12 hH12; have HS12_4 : ∀ (a_ : Addr) (m_ : Mode) (W_ : World), (store a_ (v235) m_).run Try.prog W_ = stored Try.prog W_ a_ (v235) m_ := by (obtain ⟨_, _, e_⟩ := Kd.R_slice (HO236.out)); intro a_ m_ W_; rw [e_]; exact run_store _ _ _ _ _ rfl) | ((with_reducible refine gate_store (t := 29) (p := 21) rfl ?_); refine store_event (t := 29) (p := 21) (v := ?vo_w13) (w1 := (((((w11.setCell ⟨go10, (x4_1 : Int).toNat * 5, none⟩ (.int .i64 t230)).setCell ⟨go10, (x4_1 : Int).toNat * 5 + 1, none⟩ (.int .i64 t231)).setCell ⟨go10, (x4_1 : Int).toNat * 5 + 2, none⟩ (.int .i64 t232)).setCell ⟨go10, (x4_1 : Int).toNat * 5 + 3, none⟩ (.string t233)).setCell ⟨go10, (x4_1 : Int).toNat * 5 + 4, none⟩ (v235))) ?hg ?ho ?hn ?hr ?_; (case ho => rfl); (case hg => rfl); (case hn => rfl); (case hr => first | (go_simp; done) | (go_simp; rfl)); intro w13 hw; have hg : w11.grownBy w13 (some go10) := (by rw [hw]; exact HP12.2); have hp_ : Kd.S k29 29 w13 w.heap.size (fun _ => True) (.slice (some ⟨go10, 0, none⟩) x3_1.length co10) y237 := (by rw [hw, Ny237.out]; exact HP12.1); clear HP12; have n0_ := Aside0.mk (hp_); have n1_ := Aside0.mk ((by rw [hw]; exact below_set (below_set (below_set (below_set (below_set (HB.out) GB10.out) GB10.out) GB10.out) GB10.out) GB10.out : Below w.heap.size w w13)); clear HO_3; clear HB; clear HO236; have HO_3 := n0_; have HB := n1_; clear n0_ n1_; clear hg hw hp_))
        go_roundg k1
        case measure => have := HK1.out; omega
        case rel => exact ⟨(y237), (wrap64 (x4_1 + 1)), rz, H', ⟨by have := HK1.out; omega⟩, ⟨by (with_reducible repeat (first | apply Kd.S_alloc | apply Kd.S_drewN | apply Kd.S_drew)); exact HO_3.out⟩, ⟨bz⟩⟩
       ·rw [if_neg c9] at H
        exact absurd H (by simp)
      ·rw [if_neg c7] at H
       exact absurd H (by simp)
     ·rw [if_neg c6] at H; have c6b0 := decide_eq_false c6; clear c6; obtain rfl := Option.some.inj H; go_wp2; go_ret
      exact ⟨_, ez, by (with_reducible repeat (first | apply Kd.S_alloc | apply Kd.S_drewN | apply Kd.S_drew)); exact HO_3.out, bz⟩
  ·rw [if_neg c3] at H
   exact absurd H (by simp)
 ·rw [if_neg c2] at H
  exact absurd H (by simp)
def laws_toBox.Fs : List (Spc env) := [laws_toPoint.spec]
def laws_toBox.cut : Nat → Option (List (Lv SC)) := lk []
def laws_toBox.ret (r0 : S98) : Option (HL eΓ [.st .s98]) := some (r0, ())
def laws_toBox.run (k : Nat) (h : HL eΓ [.st .s129]) : Option (HL eΓ [.st .s98]) := evF env laws_toBox.Fs Try.f158 laws_toBox.cut [.st .s129] [.st .s98] k h
theorem laws_toBox.ef (k : Nat) (h0 : S129) : laws_toBox.run k (h0, ()) = laws_toPoint.ap k (⟨h0.f0.f0, h0.f0.f1⟩ : S118) fun r1 => laws_toPoint.ap k (⟨h0.f1.f0, h0.f1.f1⟩ : S118) fun r2 => laws_toBox.ret (⟨(⟨r1.f0, r1.f1⟩ : S82), (⟨r2.f0, r2.f1⟩ : S82)⟩ : S98) := by kernel_rfl
def laws_toBox.toH (t : Int × Int × Int × Int) : HL eΓ [.st .s98] := ((⟨(⟨t.1, t.2.1⟩ : S82), (⟨t.2.2.1, t.2.2.2⟩ : S82)⟩ : S98), ())
def laws_toBox.spec : Spc env := ⟨158, [.st .s129], [.st .s98], laws_toBox.run⟩
def laws_toBox.ap {R : Type} (k : Nat) (h0 : S129) (K : S98 → Option R) : Option R := (laws_toBox.run k (h0, ())).bind fun r => K (r.1 : S98)
theorem laws_toBox.ap_of {R : Type} {k : Nat} {h0 : S129} {r0 : S98} {K : S98 → Option R} (h : laws_toBox.run k (h0, ()) = some (r0, ())) : laws_toBox.ap k h0 K = K r0 := by unfold laws_toBox.ap; rw [h]; rfl
theorem laws_toBox.snd : Snd env laws_toBox.spec := evF_snd env_ok (sndC laws_toPoint.snd (sndN)) (by kernel_rfl) (by kernel_rfl) (by kernel_rfl)
attribute [local irreducible] laws_toBox.run
theorem laws_toBox.rt (a0 : Int) (a1 : Int) (a2 : Int) (a3 : Int) : laws_toBox.ret (⟨(⟨a0, a1⟩ : S82), (⟨a2, a3⟩ : S82)⟩ : S98) = some (laws_toBox.toH (a0, a1, a2, a3)) := rfl
theorem laws_toBox.go {a0_0 : Int} {a0_1 : Int} {a0_2 : Int} {a0_3 : Int} {t} (h : laws_toBox.f a0_0 a0_1 a0_2 a0_3 = some t) (K : Nat) : laws_toBox.run K ((⟨(⟨a0_0, a0_1⟩ : S118), (⟨a0_2, a0_3⟩ : S118)⟩ : S129), ()) = some (laws_toBox.toH t) := by
  rw [laws_toBox.ef]
  (try dsimp only)
  unfold laws_toBox.f at h
  repeat' (with_reducible first
   | exact nos h
   | (cases some_inj h; exact laws_toBox.rt _ _ _ _)
   | (simp only [Option.bind_some] at h)
   | (refine ite_by h (fun hc h => ?_) (fun hc h => ?_) <;> (try simp only [nrm] at hc))
   | refine itT ?_ (by first | assumption | omega | (simp only [nrm]; first | done | assumption | omega) | (simp only [nln] at hc ⊢; omega))
   | refine itF ?_ (by first | assumption | omega | (simp only [nrm]; first | done | assumption | omega) | (simp only [nln] at hc ⊢; omega))
   | (refine bind_by h (fun t ht h => ?_); refine (laws_toPoint.ap_of (laws_toPoint.go ht _)).trans ?_; (try dsimp only at h ⊢))
   | (simp only [decide_not, Bool.decide_and, decide_true, Bool.and_true, Bool.not_and, beqI, Int.toNat_natCast, List.take_length] at h ⊢)
   | (exfalso; omega))
def laws_toLabel.Fs : List (Spc env) := [laws_toBox.spec]
def laws_toLabel.cut : Nat → Option (List (Lv SC)) := lk []
def laws_toLabel.ret (r0 : S100) : Option (HL eΓ [.st .s100]) := some (r0, ())
def laws_toLabel.run (k : Nat) (h : HL eΓ [.st .s131]) : Option (HL eΓ [.st .s100]) := evF env laws_toLabel.Fs Try.f135 laws_toLabel.cut [.st .s131] [.st .s100] k h
theorem laws_toLabel.ef (k : Nat) (h0 : S131) : laws_toLabel.run k (h0, ()) = laws_toBox.ap k (⟨(⟨h0.f2.f0.f0, h0.f2.f0.f1⟩ : S118), (⟨h0.f2.f1.f0, h0.f2.f1.f1⟩ : S118)⟩ : S129) fun r1 => laws_toLabel.ret (⟨h0.f0, h0.f1, (⟨(⟨r1.f0.f0, r1.f0.f1⟩ : S82), (⟨r1.f1.f0, r1.f1.f1⟩ : S82)⟩ : S98)⟩ : S100) := by kernel_rfl
def laws_toLabel.toH (t : Int × ByteArray × Int × Int × Int × Int) : HL eΓ [.st .s100] := ((⟨t.1, t.2.1, (⟨(⟨t.2.2.1, t.2.2.2.1⟩ : S82), (⟨t.2.2.2.2.1, t.2.2.2.2.2⟩ : S82)⟩ : S98)⟩ : S100), ())
def laws_toLabel.spec : Spc env := ⟨135, [.st .s131], [.st .s100], laws_toLabel.run⟩
def laws_toLabel.ap {R : Type} (k : Nat) (h0 : S131) (K : S100 → Option R) : Option R := (laws_toLabel.run k (h0, ())).bind fun r => K (r.1 : S100)
theorem laws_toLabel.ap_of {R : Type} {k : Nat} {h0 : S131} {r0 : S100} {K : S100 → Option R} (h : laws_toLabel.run k (h0, ()) = some (r0, ())) : laws_toLabel.ap k h0 K = K r0 := by unfold laws_toLabel.ap; rw [h]; rfl
theorem laws_toLabel.snd : Snd env laws_toLabel.spec := evF_snd env_ok (sndC laws_toBox.snd (sndN)) (by kernel_rfl) (by kernel_rfl) (by kernel_rfl)
attribute [local irreducible] laws_toLabel.run
theorem laws_toLabel.rt (a0 : Int) (a1 : ByteArray) (a2 : Int) (a3 : Int) (a4 : Int) (a5 : Int) : laws_toLabel.ret (⟨a0, a1, (⟨(⟨a2, a3⟩ : S82), (⟨a4, a5⟩ : S82)⟩ : S98)⟩ : S100) = some (laws_toLabel.toH (a0, a1, a2, a3, a4, a5)) := rfl
theorem laws_toLabel.go {a0_0 : Int} {a0_1 : ByteArray} {a0_2 : Int} {a0_3 : Int} {a0_4 : Int} {a0_5 : Int} {t} (h : laws_toLabel.f a0_0 a0_1 a0_2 a0_3 a0_4 a0_5 = some t) (K : Nat) : laws_toLabel.run K ((⟨a0_0, a0_1, (⟨(⟨a0_2, a0_3⟩ : S118), (⟨a0_4, a0_5⟩ : S118)⟩ : S129)⟩ : S131), ()) = some (laws_toLabel.toH t) := by
  rw [laws_toLabel.ef]
  (try dsimp only)
  unfold laws_toLabel.f at h
  repeat' (with_reducible first
   | exact nos h
   | (cases some_inj h; exact laws_toLabel.rt _ _ _ _ _ _)
   | (simp only [Option.bind_some] at h)
   | (refine ite_by h (fun hc h => ?_) (fun hc h => ?_) <;> (try simp only [nrm] at hc))
   | refine itT ?_ (by first | assumption | omega | (simp only [nrm]; first | done | assumption | omega) | (simp only [nln] at hc ⊢; omega))
   | refine itF ?_ (by first | assumption | omega | (simp only [nrm]; first | done | assumption | omega) | (simp only [nln] at hc ⊢; omega))
   | (refine bind_by h (fun t ht h => ?_); refine (laws_toBox.ap_of (laws_toBox.go ht _)).trans ?_; (try dsimp only at h ⊢))
   | (simp only [decide_not, Bool.decide_and, decide_true, Bool.and_true, Bool.not_and, beqI, Int.toNat_natCast, List.take_length] at h ⊢)
   | (exfalso; omega))
def laws_toLabelS.Fs : List (Spc env) := [laws_toLabel.spec]
def laws_toLabelS.fin : St eΓ → Option (HL eΓ [.l 100 (.st .s100)]) := finR env Try.f92.results.toList [.l 100 (.st .s100)]
def laws_toLabelS.cut : Nat → Option (List (Lv SC)) := lk [(3, [⟨0, none, false⟩, ⟨3, none, false⟩, ⟨4, none, false⟩])]
def laws_toLabelS.ret (r0 : List S100) : Option (HL eΓ [.l 100 (.st .s100)]) := some (r0, ())
def laws_toLabelS.p3 (k : Nat) (x4 : Int) (x0 : List S131) (x3 : List S100) : Option (HL eΓ [.l 100 (.st .s100)]) := evM env laws_toLabelS.Fs Try.f92.ntmps laws_toLabelS.fin laws_toLabelS.cut k [.code (sub_ [1, 1, 0, 1, 0, 0, 0, 0] (bodyOf Try.f92)), .code (sub_ [1, 1, 0, 1, 0, 0, 0, 1] (bodyOf Try.f92)), .code (sub_ [1, 1, 0, 1, 0, 0, 1] (bodyOf Try.f92)), .lp (sub_ [1, 1, 0, 1, 0, 0] (bodyOf Try.f92)), .blk 0, .code (sub_ [1, 1, 1] (bodyOf Try.f92))] (mkSt [(0, .c (.sl 0)), (3, .c (.sl 1)), (4, .c (.v (.int .i64 x4)))] [.row .ro 131 (.st .s131) x0, .row .own 100 (.st .s100) x3])
theorem laws_toLabelS.e3 (k : Nat) (x4 : Int) (x0 : List S131) (x3 : List S100) : laws_toLabelS.p3 (k + 1) x4 x0 x3 = if x4 < (x0.length : Int) then (if 0 ≤ x4 then (if x4 < (x0.length : Int) then (laws_toLabel.ap k (⟨(rd_T131 x0 x4).f0, (rd_T131 x0 x4).f1, (⟨(⟨(rd_T131 x0 x4).f2.f0.f0, (rd_T131 x0 x4).f2.f0.f1⟩ : S118), (⟨(rd_T131 x0 x4).f2.f1.f0, (rd_T131 x0 x4).f2.f1.f1⟩ : S118)⟩ : S129)⟩ : S131) fun r1 => if 0 ≤ x4 then (if x4 < (x3.length : Int) then (laws_toLabelS.p3 k (wrap64 (x4 + 1)) x0 (x3.set x4.toNat (⟨r1.f0, r1.f1, (⟨(⟨r1.f2.f0.f0, r1.f2.f0.f1⟩ : S82), (⟨r1.f2.f1.f0, r1.f2.f1.f1⟩ : S82)⟩ : S98)⟩ : S100))) else none) else none) else none) else none) else (laws_toLabelS.ret x3) := by kernel_rfl
def laws_toLabelS.run (k : Nat) (h : HL eΓ [.l 131 (.st .s131)]) : Option (HL eΓ [.l 100 (.st .s100)]) := evF env laws_toLabelS.Fs Try.f92 laws_toLabelS.cut [.l 131 (.st .s131)] [.l 100 (.st .s100)] k h
theorem laws_toLabelS.ef (k : Nat) (h0 : List S131) : laws_toLabelS.run k (h0, ()) = if (h0.length : Int) = (h0.length : Int) then (if 0 ≤ (h0.length : Int) then (if (h0.length : Int).toNat * 56 ≤ 281474976710656 then (laws_toLabelS.p3 k 0 h0 (List.replicate (h0.length : Int).toNat z100)) else none) else none) else none := by kernel_rfl
def laws_toLabelS.toH (t : (List (S100))) : HL eΓ [.l 100 (.st .s100)] := (t, ())
def laws_toLabelS.spec : Spc env := ⟨92, [.l 131 (.st .s131)], [.l 100 (.st .s100)], laws_toLabelS.run⟩
theorem laws_toLabelS.snd : Snd env laws_toLabelS.spec := evF_snd env_ok (sndC laws_toLabel.snd (sndN)) (by kernel_rfl) (by kernel_rfl) (by kernel_rfl)
attribute [local irreducible] laws_toLabelS.run
theorem laws_toLabelS.rt (a0 : List S100) : laws_toLabelS.ret a0 = some (laws_toLabelS.toH (a0)) := rfl
theorem laws_toLabelS.br (n : Nat) : (∀ K, n ≤ K → ∀ (x4 : Int) (x0 : List S131) (x3 : List S100) t, laws_toLabelS.l0 n x0 x3 x4 = some t → laws_toLabelS.p3 K x4 x0 x3 = some (laws_toLabelS.toH t)) := by
  induction n using Nat.strongRecOn with
  | _ n ih =>
  intro K hK x4 x0 x3 t h
  all_goals (rcases n with _ | k)
  all_goals (try (exact nos h))
  all_goals (obtain ⟨K, rfl⟩ : ∃ q, K = q + 1 := ⟨K - 1, by omega⟩)
  all_goals (first | rw [laws_toLabelS.e3])
  all_goals (simp only [laws_toLabelS.l0] at h)
  repeat' (with_reducible first
   | exact nos h
   | (cases some_inj h; exact laws_toLabelS.rt _)
   | exact (ih _ (by omega)) _ (by omega) _ _ _ _ h
   | (simp only [Option.bind_some] at h)
   | (refine ite_by h (fun hc h => ?_) (fun hc h => ?_) <;> (try simp only [nrm] at hc))
   | refine itT ?_ (by first | assumption | omega | (simp only [nrm]; first | done | assumption | omega) | (simp only [nln] at hc ⊢; omega))
   | refine itF ?_ (by first | assumption | omega | (simp only [nrm]; first | done | assumption | omega) | (simp only [nln] at hc ⊢; omega))
   | (refine bind_by h (fun t ht h => ?_); refine (laws_toLabel.ap_of (laws_toLabel.go ht _)).trans ?_; (try dsimp only at h ⊢))
   | (simp only [decide_not, Bool.decide_and, decide_true, Bool.and_true, Bool.not_and, beqI, Int.toNat_natCast, List.take_length] at h ⊢)
   | (exfalso; omega))
theorem laws_toLabelS.go {k : Nat} {l0 : List S131} {t} (h : laws_toLabelS.f k l0 = some t) (K : Nat) (hK : k ≤ K) : laws_toLabelS.run K (l0, ()) = some (laws_toLabelS.toH t) := by
  rw [laws_toLabelS.ef]
  (try dsimp only)
  unfold laws_toLabelS.f at h
  repeat' (with_reducible first
   | exact nos h
   | (cases some_inj h; exact laws_toLabelS.rt _)
   | exact (laws_toLabelS.br _) _ (by omega) _ _ _ _ h
   | (simp only [Option.bind_some] at h)
   | (refine ite_by h (fun hc h => ?_) (fun hc h => ?_) <;> (try simp only [nrm] at hc))
   | refine itT ?_ (by first | assumption | omega | (simp only [nrm]; first | done | assumption | omega) | (simp only [nln] at hc ⊢; omega))
   | refine itF ?_ (by first | assumption | omega | (simp only [nrm]; first | done | assumption | omega) | (simp only [nln] at hc ⊢; omega))
   | (refine bind_by h (fun t ht h => ?_); refine (laws_toLabel.ap_of (laws_toLabel.go ht _)).trans ?_; (try dsimp only at h ⊢))
   | (simp only [decide_not, Bool.decide_and, decide_true, Bool.and_true, Bool.not_and, beqI, Int.toNat_natCast, List.take_length] at h ⊢)
   | (exfalso; omega))
theorem laws_toLabelS.calls (k : Nat) (A0 : Option Addr) (c0 : Nat) (l0 : List (S131)) (r : List (S100)) (w : World) (hr0 : Kd.C k131 w A0 l0.length l0) (hc0 : l0.length ≤ c0) (h : laws_toLabelS.f k l0 = some r) :
  Calls Try.prog 92 #[.slice A0 l0.length c0] w fun e w' => ∃ v0_ : Value, e = .returned (v0_) ∧ Kd.R k100 100 w' w.heap.size (fun _ => True) v0_ r ∧ Below w.heap.size w w' := by
  refine (laws_toLabelS.snd.calls _ _ _ (laws_toLabelS.go h k (Nat.le_refl k)) w [.slice A0 l0.length c0] ⟨⟨_, _, rfl, hc0, hr0⟩, trivial⟩).mono ?_
  rintro e w' ⟨v, rfl, hB, vs, oks, rfl, hR, _⟩
  obtain ⟨x0_, vs, o0_, oks, rfl, rfl, m0_, hR⟩ := rmsC hR
  obtain rfl := rmsN hR
  obtain ⟨x0_v, x0_e, x0_R⟩ := m0_
  obtain rfl := List.singleton_inj.1 x0_e
  exact ⟨_, rfl, Kd.R_mono x0_R (fun _ _ => trivial), hB⟩
set_option maxHeartbeats 8000000 in
set_option maxRecDepth 100000 in
theorem laws_toChart.calls (k : Nat) (A0_0 : Option Addr) (c0_0 : Nat) (l0_0 : List (S24)) (A0_1 : Option Addr) (c0_1 : Nat) (l0_1 : List (S131)) (r1 : List (S29)) (r2 : List (S100)) (w : World) (hr0_0 : Kd.C k24 w A0_0 l0_0.length l0_0) (hc0_0 : l0_0.length ≤ c0_0) (hr0_1 : Kd.C k131 w A0_1 l0_1.length l0_1) (hc0_1 : l0_1.length ≤ c0_1) (h : laws_toChart.f k l0_0 l0_1 = some (r1, r2)) :
  Calls Try.prog 37 #[.agg #[.slice A0_0 l0_0.length c0_0, .slice A0_1 l0_1.length c0_1]] w fun e w' => ∃ v0_ v1_ : Value, e = .returned (.agg #[v0_, v1_]) ∧ Kd.S k29 29 w' w.heap.size (fun _ => True) v0_ r1 ∧ Kd.R k100 100 w' w.heap.size (fun _ => True) v1_ r2 ∧ Below w.heap.size w w' := by
 have hu48 := Try.underlying48; have hu53 := Try.underlying53; have HR0_0 := Aside0.mk hr0_0; have HC0_0 := Aside0.mk hc0_0; clear hr0_0 hc0_0; have HR0_1 := Aside0.mk hr0_1; have HC0_1 := Aside0.mk hc0_1; clear hr0_1 hc0_1; have HB := Aside0.mk (Below.refl w.heap.size w); have H : ((laws_toFeatureS.f k l0_0).bind fun t266 => ((laws_toLabelS.f k l0_1).bind fun t269 => (some (t266, t269)))) = some (r1, r2) := h; clear h; replace H := Option.bind_eq_some_iff.mp H; obtain ⟨t266, A20, H⟩ := H; have A2 := Aside0.mk A20; clear A20; replace H := Option.bind_eq_some_iff.mp H; obtain ⟨t269, A30, H⟩ := H; have A3 := Aside0.mk A30; clear A30; simp only [Option.some.injEq, Prod.mk.injEq] at H; obtain ⟨rfl, rfl⟩ := H
 go_enter Try.func37, Try.ntmps37; go_wp2_with (first | ((with_reducible refine gt (some 1) rfl ?_); refine bx #[.slice A0_0 l0_0.length c0_0, .slice A0_1 l0_1.length c0_1] 48 ?_; intro gb263 hg w4 hbox hb; have BK263 := Aside0.mk (hbox); have GW263 := Aside0.mk (gez HB hg); have GE263 := Aside0.mk (gez HB hg); replace HB := Aside0.mk (below_step bz hb); clear hb hbox hg) | ((with_reducible refine gt (some 2) rfl ?_); refine bx #[.slice none 0 0, .slice none 0 0] 53 ?_; intro gb264 hg w5 hbox hb; have BK264 := Aside0.mk (hbox); have GW264 := Aside0.mk (gez HB hg); have GE264 := Aside0.mk (gez HB hg); replace HB := Aside0.mk (below_step bzs hb); have NB263_264 := Aside0.mk ((by rw [hg]; exact Nat.ne_of_lt (blk_lt (g := gb263) (o := .cells #[.slice A0_0 l0_0.length c0_0, .slice A0_1 l0_1.length c0_1] 48 (0, 0)) (kz BK263)) : gb263 ≠ gb264)); have NB264_263 := Aside0.mk ((by rw [hg]; exact Nat.ne_of_gt (blk_lt (g := gb263) (o := .cells #[.slice A0_0 l0_0.length c0_0, .slice A0_1 l0_1.length c0_1] 48 (0, 0)) (kz BK263)) : gb264 ≠ gb263)); replace BK263 := Aside0.mk (bbz BK263 hb); clear hb hbox hg) | ((with_reducible refine gt (some 3) rfl ?_); refine bx #[.slice none 0 0, .slice none 0 0] 53 ?_; intro gb265 hg w6 hbox hb; have BK265 := Aside0.mk (hbox); have GW265 := Aside0.mk (gez HB hg); have GE265 := Aside0.mk (gez HB hg); replace HB := Aside0.mk (below_step bzs hb); have NB263_265 := Aside0.mk ((by rw [hg]; exact Nat.ne_of_lt (blk_lt (g := gb263) (o := .cells #[.slice A0_0 l0_0.length c0_0, .slice A0_1 l0_1.length c0_1] 48 (0, 0)) (kz BK263)) : gb263 ≠ gb265)); have NB265_263 := Aside0.mk ((by rw [hg]; exact Nat.ne_of_gt (blk_lt (g := gb263) (o := .cells #[.slice A0_0 l0_0.length c0_0, .slice A0_1 l0_1.length c0_1] 48 (0, 0)) (kz BK263)) : gb265 ≠ gb263)); replace BK263 := Aside0.mk (bbz BK263 hb); have NB264_265 := Aside0.mk ((by rw [hg]; exact Nat.ne_of_lt (blk_lt (g := gb264) (o := .cells #[.slice none 0 0, .slice none 0 0] 53 (0, 0)) (kz BK264)) : gb264 ≠ gb265)); have NB265_264 := Aside0.mk ((by rw [hg]; exact Nat.ne_of_gt (blk_lt (g := gb264) (o := .cells #[.slice none 0 0, .slice none 0 0] 53 (0, 0)) (kz BK264)) : gb265 ≠ gb264)); replace BK264 := Aside0.mk (bbz BK264 hb); clear hb hbox hg; have hnb7 := NB263_264.out; have hnc7 := NB264_263.out; have hnb8 := NB263_265.out; have hnc8 := NB265_263.out; obtain ⟨hcz9_0, hcz9_1, hfz9_0, hfz9_1⟩ := cells2 BK263) | ((with_reducible refine gt (some 6) rfl ?_); refine gc Try.func28 (laws_toFeatureS.calls k A0_0 c0_0 l0_0 t266 _ (cz (Kd.C_below HR0_0.out HB.out)) HC0_0.out A2.out) ?_; rintro e w10 ⟨v267, rfl, ho0, hb⟩; refine ⟨_, rfl, ?_⟩; have HO268 := Aside0.mk (Kd.S_lower ho0 (below_size bzs)); replace BK263 := Aside0.mk (bbz BK263 hb); replace BK264 := Aside0.mk (bbz BK264 hb); replace BK265 := Aside0.mk (bbz BK265 hb); replace HB := Aside0.mk (below_step bzs hb); (try clear hb); (try clear ho0); obtain ⟨Ao11, co11, eo11⟩ := Kd.S_slice HO268.out; subst eo11; have hnb12 := NB265_264.out; have hnc12 := NB264_265.out; obtain ⟨hcz13_0, hcz13_1, hfz13_0, hfz13_1⟩ := cells2 BK265; obtain ⟨hcz14_0, hcz14_1, hfz14_0, hfz14_1⟩ := cells2 BK263) | ((with_reducible refine gt (some 10) rfl ?_); refine gc Try.func92 (laws_toLabelS.calls k _ _ l0_1 t269 _ (Kd.C_below HR0_1.out bzs) HC0_1.out A3.out) ?_; rintro e w15 ⟨v270, rfl, ho0, hb⟩; refine ⟨_, rfl, ?_⟩; replace HO268 := Aside0.mk (Kd.S_below (by (with_reducible repeat (first | apply Kd.S_alloc | apply Kd.S_drewN | apply Kd.S_drew)); exact (Kd.S_mono (Kd.S_far (p := ⟨gb265, 0, none⟩) (Kd.S_types HO268.out BK265.out (by decide)) (fun _ hk => hk.2) (.slice Ao11 t266.length co11)) (fun _ h_ => h_.1))) hb); have HO271 := Aside0.mk (Kd.R_lower ho0 (below_size bzs)); replace BK263 := Aside0.mk (bbz BK263 hb); replace BK264 := Aside0.mk (bbz BK264 hb); replace BK265 := Aside0.mk (blk_below (g := gb265) (o := .cells #[.slice Ao11 t266.length co11, .slice none 0 0] 53 (0, 0)) (by (with_reducible repeat (first | refine blk_drewN ?_ _ | refine blk_drew ?_ | refine blk_alloc ?_ _)); refine blk_put (cs := #[.slice none 0 0, .slice none 0 0]) ?_ 0 _ rfl; (with_reducible repeat (first | refine blk_drewN ?_ _ | refine blk_drew ?_ | refine blk_alloc ?_ _)); exact BK265.out) hb); replace HB := Aside0.mk (below_step bzs hb); (try clear hb); (try clear ho0); obtain ⟨Ao16, co16, eo16⟩ := Kd.R_slice HO271.out; subst eo16; obtain ⟨hcz17_0, hcz17_1, hfz17_0, hfz17_1⟩ := cells2 BK265; obtain ⟨hcz18_0, hcz18_1, hfz18_0, hfz18_1⟩ := cells2 BK264))
 refine bodyPost_ret (results_cell_row rfl _ _ gb264 53 #[.slice Ao11 t266.length co11, .slice Ao16 t269.length co16] (0, 0) _ rfl (by (with_reducible repeat (first | refine blk_drewN ?_ _ | refine blk_drew ?_ | refine blk_alloc ?_ _)); refine blk_put (cs := #[.slice Ao11 t266.length co11, .slice none 0 0]) ?_ 1 _ rfl; (with_reducible repeat (first | refine blk_drewN ?_ _ | refine blk_drew ?_ | refine blk_alloc ?_ _)); refine blk_put (cs := #[.slice none 0 0, .slice none 0 0]) ?_ 0 _ rfl; (with_reducible repeat (first | refine blk_drewN ?_ _ | refine blk_drew ?_ | refine blk_alloc ?_ _)); refine blk_far ?_ NB264_265.out _; (with_reducible repeat (first | refine blk_drewN ?_ _ | refine blk_drew ?_ | refine blk_alloc ?_ _)); exact BK264.out) Try.underlying53 rfl (by kernel_rfl)) rfl ?_
 exact ⟨_, _, ez, by (with_reducible repeat (first | apply Kd.S_alloc | apply Kd.S_drewN | apply Kd.S_drew)); exact Kd.S_mono (Kd.S_far (p := ⟨gb264, 1, none⟩) (Kd.S_far (p := ⟨gb264, 0, none⟩) (Kd.S_far (p := ⟨gb265, 1, none⟩) (Kd.S_types (Kd.S_types HO268.out BK265.out (by decide)) BK264.out (by decide)) (fun _ hk => hk.1.2) (.slice Ao16 t269.length co16)) (fun _ hk => hk.2) (.slice Ao11 t266.length co11)) (fun _ hk => hk.2) (.slice Ao16 t269.length co16)) (fun _ hk => trivial), hr (Kd.R_mono (Kd.R_far (p := ⟨gb264, 1, none⟩) (Kd.R_far (p := ⟨gb264, 0, none⟩) (Kd.R_far (p := ⟨gb265, 1, none⟩) (Kd.R_types (Kd.R_types HO271.out BK265.out (by decide)) BK264.out (by decide)) (fun _ hk => hk.1.2) (.slice Ao16 t269.length co16)) (fun _ hk => hk.2) (.slice Ao11 t266.length co11)) (fun _ hk => hk.2) (.slice Ao16 t269.length co16)) (fun _ hk => trivial)), bzs⟩
def impl_InRange.toH (t : Bool) : HL eΓ [.b] := (t, ())
def impl_InRange.run (k : Nat) (h : HL eΓ [.i .i64, .i .i64, .i .i64]) : Option (HL eΓ [.b]) := (impl_InRange.f (h.1 : Int) (h.2.1 : Int) (h.2.2.1 : Int)).map impl_InRange.toH
def impl_InRange.spec : Spc env := ⟨112, [.i .i64, .i .i64, .i .i64], [.b], impl_InRange.run⟩
def impl_InRange.ap {R : Type} (k : Nat) (h0 : Int) (h1 : Int) (h2 : Int) (K : Bool → Option R) : Option R := (impl_InRange.run k (h0, h1, h2, ())).bind fun r => K (r.1 : Bool)
theorem impl_InRange.ap_of {R : Type} {k : Nat} {h0 : Int} {h1 : Int} {h2 : Int} {r0 : Bool} {K : Bool → Option R} (h : impl_InRange.run k (h0, h1, h2, ()) = some (r0, ())) : impl_InRange.ap k h0 h1 h2 K = K r0 := by unfold impl_InRange.ap; rw [h]; rfl
theorem impl_InRange.go {a0 : Int} {a1 : Int} {a2 : Int} {t} (h : impl_InRange.f a0 a1 a2 = some t) (K : Nat) : impl_InRange.run K (a0, a1, a2, ()) = some (impl_InRange.toH t) := by
  show Option.map _ (impl_InRange.f a0 a1 a2) = _
  rw [h]; rfl
theorem impl_InRange.snd : Snd env impl_InRange.spec := ⟨⟨Try.f112, by kernel_rfl, by kernel_rfl, by kernel_rfl⟩, fun k h r he w us hA => by
  obtain ⟨t, ht, rfl⟩ := Option.map_eq_some_iff.1 (show (impl_InRange.f (h.1 : Int) (h.2.1 : Int) (h.2.2.1 : Int)).map impl_InRange.toH = some r from he)
  match us, hA with
  | [u0, u1, u2], ⟨q0, q1, q2, _⟩ =>
  obtain rfl := List.singleton_inj.1 (show [u0] = [Value.int .i64 (h.1 : Int)] from q0)
  obtain rfl := List.singleton_inj.1 (show [u1] = [Value.int .i64 (h.2.1 : Int)] from q1)
  obtain rfl := List.singleton_inj.1 (show [u2] = [Value.int .i64 (h.2.2.1 : Int)] from q2)
  refine (impl_InRange.calls (w := w) (h := ht) ).mono ?_
  rintro e w' ⟨he, hw⟩
  exact ⟨_, he, (by obtain ⟨_, rfl⟩ := hw; exact Below.refl _ _), [.bool t], [fun _ => False], rfl, ⟨rfl, trivial⟩, by simp [DJ]⟩⟩
def impl_around.Fs : List (Spc env) := []
def impl_around.fin : St eΓ → Option (HL eΓ [.l 85 (.st .s85)]) := finR env Try.f150.results.toList [.l 85 (.st .s85)]
def impl_around.cut : Nat → Option (List (Lv SC)) := lk [(3, [⟨0, none, false⟩, ⟨3, none, false⟩, ⟨7, none, false⟩, ⟨8, none, false⟩, ⟨9, none, false⟩])]
def impl_around.ret (r0 : List S85) : Option (HL eΓ [.l 85 (.st .s85)]) := some (r0, ())
def impl_around.p3 (k : Nat) (x8 : Int) (x9 : Int) (x0 : List S82) (x3 : List S85) : Option (HL eΓ [.l 85 (.st .s85)]) := evM env impl_around.Fs Try.f150.ntmps impl_around.fin impl_around.cut k [.code (sub_ [1, 1, 0, 1, 0, 0, 0] (bodyOf Try.f150)), .code (sub_ [1, 1, 0, 1, 0, 0, 1] (bodyOf Try.f150)), .lp (sub_ [1, 1, 0, 1, 0, 0] (bodyOf Try.f150)), .blk 0, .code (sub_ [1, 1, 1] (bodyOf Try.f150))] (mkSt [(0, .c (.sl 0)), (3, .c (.sl 1)), (7, .c (.sl 0)), (8, .c (.v (.int .i64 x8))), (9, .c (.v (.int .i64 x9)))] [.row .ro 82 (.st .s82) x0, .row .own 85 (.st .s85) x3])
theorem impl_around.e3 (k : Nat) (x8 : Int) (x9 : Int) (x0 : List S82) (x3 : List S85) : impl_around.p3 (k + 1) x8 x9 x0 x3 = if x9 < x8 then (if 0 ≤ x9 then (if x9 < (x0.length : Int) then (if (x0.length : Int) = 0 then none else (if 0 ≤ (Int.tmod (wrap64 (x9 + 1)) (x0.length : Int)) then (if (Int.tmod (wrap64 (x9 + 1)) (x0.length : Int)) < (x0.length : Int) then (if (x3.length + 1) * 32 ≤ 140737488355328 then (impl_around.p3 k x8 (wrap64 (x9 + 1)) x0 (x3 ++ [(⟨(⟨(rd_T82 x0 x9).f0, (rd_T82 x0 x9).f1⟩ : S82), (⟨(rd_T82 x0 (Int.tmod (wrap64 (x9 + 1)) (x0.length : Int))).f0, (rd_T82 x0 (Int.tmod (wrap64 (x9 + 1)) (x0.length : Int))).f1⟩ : S82)⟩ : S85)])) else none) else none) else none)) else none) else none) else (impl_around.ret x3) := by kernel_rfl
def impl_around.run (k : Nat) (h : HL eΓ [.l 82 (.st .s82)]) : Option (HL eΓ [.l 85 (.st .s85)]) := evF env impl_around.Fs Try.f150 impl_around.cut [.l 82 (.st .s82)] [.l 85 (.st .s85)] k h
theorem impl_around.ef (k : Nat) (h0 : List S82) : impl_around.run k (h0, ()) = impl_around.p3 k (h0.length : Int) 0 h0 ([] : List S85) := by kernel_rfl
def impl_around.toH (t : (List (S85))) : HL eΓ [.l 85 (.st .s85)] := (t, ())
def impl_around.spec : Spc env := ⟨150, [.l 82 (.st .s82)], [.l 85 (.st .s85)], impl_around.run⟩
def impl_around.ap {R : Type} (k : Nat) (h0 : List S82) (K : (List S85) → Option R) : Option R := (impl_around.run k (h0, ())).bind fun r => K (r.1 : List S85)
theorem impl_around.ap_of {R : Type} {k : Nat} {h0 : List S82} {r0 : List S85} {K : (List S85) → Option R} (h : impl_around.run k (h0, ()) = some (r0, ())) : impl_around.ap k h0 K = K r0 := by unfold impl_around.ap; rw [h]; rfl
theorem impl_around.snd : Snd env impl_around.spec := evF_snd env_ok (sndN) (by kernel_rfl) (by kernel_rfl) (by kernel_rfl)
attribute [local irreducible] impl_around.run
theorem impl_around.rt (a0 : List S85) : impl_around.ret a0 = some (impl_around.toH (a0)) := rfl
theorem impl_around.br (n : Nat) : (∀ K, n ≤ K → ∀ (x8 : Int) (x9 : Int) (x0 : List S82) (x3 : List S85) t, impl_around.l0 n x0 x3 x0 x8 x9 = some t → impl_around.p3 K x8 x9 x0 x3 = some (impl_around.toH t)) := by
  induction n using Nat.strongRecOn with
  | _ n ih =>
  intro K hK x8 x9 x0 x3 t h
  all_goals (rcases n with _ | k)
  all_goals (try (exact nos h))
  all_goals (obtain ⟨K, rfl⟩ : ∃ q, K = q + 1 := ⟨K - 1, by omega⟩)
  all_goals (first | rw [impl_around.e3])
  all_goals (simp only [impl_around.l0] at h)
  repeat' (with_reducible first
   | exact nos h
   | (cases some_inj h; exact impl_around.rt _)
   | exact (ih _ (by omega)) _ (by omega) _ _ _ _ _ h
   | (simp only [Option.bind_some] at h)
   | (refine ite_by h (fun hc h => ?_) (fun hc h => ?_) <;> (try simp only [nrm] at hc))
   | refine itT ?_ (by first | assumption | omega | (simp only [nrm]; first | done | assumption | omega) | (simp only [nln] at hc ⊢; omega))
   | refine itF ?_ (by first | assumption | omega | (simp only [nrm]; first | done | assumption | omega) | (simp only [nln] at hc ⊢; omega))
   | (simp only [decide_not, Bool.decide_and, decide_true, Bool.and_true, Bool.not_and, beqI, Int.toNat_natCast, List.take_length] at h ⊢)
   | (exfalso; omega))
theorem impl_around.go {k : Nat} {l0 : List S82} {t} (h : impl_around.f k l0 = some t) (K : Nat) (hK : k ≤ K) : impl_around.run K (l0, ()) = some (impl_around.toH t) := by
  rw [impl_around.ef]
  (try dsimp only)
  unfold impl_around.f at h
  repeat' (with_reducible first
   | exact nos h
   | (cases some_inj h; exact impl_around.rt _)
   | exact (impl_around.br _) _ (by omega) _ _ _ _ _ h
   | (simp only [Option.bind_some] at h)
   | (refine ite_by h (fun hc h => ?_) (fun hc h => ?_) <;> (try simp only [nrm] at hc))
   | refine itT ?_ (by first | assumption | omega | (simp only [nrm]; first | done | assumption | omega) | (simp only [nln] at hc ⊢; omega))
   | refine itF ?_ (by first | assumption | omega | (simp only [nrm]; first | done | assumption | omega) | (simp only [nln] at hc ⊢; omega))
   | (simp only [decide_not, Bool.decide_and, decide_true, Bool.and_true, Bool.not_and, beqI, Int.toNat_natCast, List.take_length] at h ⊢)
   | (exfalso; omega))
def impl_IsPoint.toH (t : Bool) : HL eΓ [.b] := (t, ())
def impl_IsPoint.run (k : Nat) (h : HL eΓ [.st .s82]) : Option (HL eΓ [.b]) := (impl_IsPoint.f ((h.1 : S82).f0) ((h.1 : S82).f1)).map impl_IsPoint.toH
def impl_IsPoint.spec : Spc env := ⟨123, [.st .s82], [.b], impl_IsPoint.run⟩
def impl_IsPoint.ap {R : Type} (k : Nat) (h0 : S82) (K : Bool → Option R) : Option R := (impl_IsPoint.run k (h0, ())).bind fun r => K (r.1 : Bool)
theorem impl_IsPoint.ap_of {R : Type} {k : Nat} {h0 : S82} {r0 : Bool} {K : Bool → Option R} (h : impl_IsPoint.run k (h0, ()) = some (r0, ())) : impl_IsPoint.ap k h0 K = K r0 := by unfold impl_IsPoint.ap; rw [h]; rfl
theorem impl_IsPoint.go {a0_0 : Int} {a0_1 : Int} {t} (h : impl_IsPoint.f a0_0 a0_1 = some t) (K : Nat) : impl_IsPoint.run K ((⟨a0_0, a0_1⟩ : S82), ()) = some (impl_IsPoint.toH t) := by
  show Option.map _ (impl_IsPoint.f a0_0 a0_1) = _
  rw [h]; rfl
theorem impl_IsPoint.snd : Snd env impl_IsPoint.spec := ⟨⟨Try.f123, by kernel_rfl, by kernel_rfl, by kernel_rfl⟩, fun k h r he w us hA => by
  obtain ⟨t, ht, rfl⟩ := Option.map_eq_some_iff.1 (show (impl_IsPoint.f ((h.1 : S82).f0) ((h.1 : S82).f1)).map impl_IsPoint.toH = some r from he)
  match us, hA with
  | [u0], ⟨q0, _⟩ =>
  obtain ⟨v0, rfl, q0⟩ := q0
  have q0 := (H82.K _ _ _).1 q0
  match e0 : v0.toList, q0 with
  | [c0_0, c0_1], ⟨p0_0, p0_1, _⟩ =>
  obtain rfl : v0 = #[c0_0, c0_1] := by rw [← Array.toArray_toList (xs := v0), e0]
  obtain rfl := List.singleton_inj.1 (show [c0_0] = [Value.int .i64 ((h.1 : S82).f0)] from p0_0)
  obtain rfl := List.singleton_inj.1 (show [c0_1] = [Value.int .i64 ((h.1 : S82).f1)] from p0_1)
  refine (impl_IsPoint.calls (w := w) (h := ht) ).mono ?_
  rintro e w' ⟨he, hw⟩
  exact ⟨_, he, hw, [.bool t], [fun _ => False], rfl, ⟨rfl, trivial⟩, by simp [DJ]⟩⟩
def impl_IsSegment.toH (t : Bool) : HL eΓ [.b] := (t, ())
def impl_IsSegment.run (k : Nat) (h : HL eΓ [.st .s85]) : Option (HL eΓ [.b]) := (impl_IsSegment.f ((h.1 : S85).f0.f0) ((h.1 : S85).f0.f1) ((h.1 : S85).f1.f0) ((h.1 : S85).f1.f1)).map impl_IsSegment.toH
def impl_IsSegment.spec : Spc env := ⟨151, [.st .s85], [.b], impl_IsSegment.run⟩
def impl_IsSegment.ap {R : Type} (k : Nat) (h0 : S85) (K : Bool → Option R) : Option R := (impl_IsSegment.run k (h0, ())).bind fun r => K (r.1 : Bool)
theorem impl_IsSegment.ap_of {R : Type} {k : Nat} {h0 : S85} {r0 : Bool} {K : Bool → Option R} (h : impl_IsSegment.run k (h0, ()) = some (r0, ())) : impl_IsSegment.ap k h0 K = K r0 := by unfold impl_IsSegment.ap; rw [h]; rfl
theorem impl_IsSegment.go {a0_0 : Int} {a0_1 : Int} {a0_2 : Int} {a0_3 : Int} {t} (h : impl_IsSegment.f a0_0 a0_1 a0_2 a0_3 = some t) (K : Nat) : impl_IsSegment.run K ((⟨(⟨a0_0, a0_1⟩ : S82), (⟨a0_2, a0_3⟩ : S82)⟩ : S85), ()) = some (impl_IsSegment.toH t) := by
  show Option.map _ (impl_IsSegment.f a0_0 a0_1 a0_2 a0_3) = _
  rw [h]; rfl
theorem impl_IsSegment.snd : Snd env impl_IsSegment.spec := ⟨⟨Try.f151, by kernel_rfl, by kernel_rfl, by kernel_rfl⟩, fun k h r he w us hA => by
  obtain ⟨t, ht, rfl⟩ := Option.map_eq_some_iff.1 (show (impl_IsSegment.f ((h.1 : S85).f0.f0) ((h.1 : S85).f0.f1) ((h.1 : S85).f1.f0) ((h.1 : S85).f1.f1)).map impl_IsSegment.toH = some r from he)
  match us, hA with
  | [u0], ⟨q0, _⟩ =>
  obtain ⟨v0, rfl, q0⟩ := q0
  have q0 := (H85.K _ _ _).1 q0
  match e0 : v0.toList, q0 with
  | [c0_0, c0_1, c0_2, c0_3], ⟨p0_0, p0_1, p0_2, p0_3, _⟩ =>
  obtain rfl : v0 = #[c0_0, c0_1, c0_2, c0_3] := by rw [← Array.toArray_toList (xs := v0), e0]
  obtain rfl := List.singleton_inj.1 (show [c0_0] = [Value.int .i64 ((h.1 : S85).f0.f0)] from p0_0)
  obtain rfl := List.singleton_inj.1 (show [c0_1] = [Value.int .i64 ((h.1 : S85).f0.f1)] from p0_1)
  obtain rfl := List.singleton_inj.1 (show [c0_2] = [Value.int .i64 ((h.1 : S85).f1.f0)] from p0_2)
  obtain rfl := List.singleton_inj.1 (show [c0_3] = [Value.int .i64 ((h.1 : S85).f1.f1)] from p0_3)
  refine (impl_IsSegment.calls (w := w) (h := ht) ).mono ?_
  rintro e w' ⟨he, hw⟩
  exact ⟨_, he, hw, [.bool t], [fun _ => False], rfl, ⟨rfl, trivial⟩, by simp [DJ]⟩⟩
def impl_BeforePoint.toH (t : Bool) : HL eΓ [.b] := (t, ())
def impl_BeforePoint.run (k : Nat) (h : HL eΓ [.st .s82, .st .s82]) : Option (HL eΓ [.b]) := (impl_BeforePoint.f ((h.1 : S82).f0) ((h.1 : S82).f1) ((h.2.1 : S82).f0) ((h.2.1 : S82).f1)).map impl_BeforePoint.toH
def impl_BeforePoint.spec : Spc env := ⟨170, [.st .s82, .st .s82], [.b], impl_BeforePoint.run⟩
def impl_BeforePoint.ap {R : Type} (k : Nat) (h0 : S82) (h1 : S82) (K : Bool → Option R) : Option R := (impl_BeforePoint.run k (h0, h1, ())).bind fun r => K (r.1 : Bool)
theorem impl_BeforePoint.ap_of {R : Type} {k : Nat} {h0 : S82} {h1 : S82} {r0 : Bool} {K : Bool → Option R} (h : impl_BeforePoint.run k (h0, h1, ()) = some (r0, ())) : impl_BeforePoint.ap k h0 h1 K = K r0 := by unfold impl_BeforePoint.ap; rw [h]; rfl
theorem impl_BeforePoint.go {a0_0 : Int} {a0_1 : Int} {a1_0 : Int} {a1_1 : Int} {t} (h : impl_BeforePoint.f a0_0 a0_1 a1_0 a1_1 = some t) (K : Nat) : impl_BeforePoint.run K ((⟨a0_0, a0_1⟩ : S82), (⟨a1_0, a1_1⟩ : S82), ()) = some (impl_BeforePoint.toH t) := by
  show Option.map _ (impl_BeforePoint.f a0_0 a0_1 a1_0 a1_1) = _
  rw [h]; rfl
theorem impl_BeforePoint.snd : Snd env impl_BeforePoint.spec := ⟨⟨Try.f170, by kernel_rfl, by kernel_rfl, by kernel_rfl⟩, fun k h r he w us hA => by
  obtain ⟨t, ht, rfl⟩ := Option.map_eq_some_iff.1 (show (impl_BeforePoint.f ((h.1 : S82).f0) ((h.1 : S82).f1) ((h.2.1 : S82).f0) ((h.2.1 : S82).f1)).map impl_BeforePoint.toH = some r from he)
  match us, hA with
  | [u0, u1], ⟨q0, q1, _⟩ =>
  obtain ⟨v0, rfl, q0⟩ := q0
  have q0 := (H82.K _ _ _).1 q0
  match e0 : v0.toList, q0 with
  | [c0_0, c0_1], ⟨p0_0, p0_1, _⟩ =>
  obtain rfl : v0 = #[c0_0, c0_1] := by rw [← Array.toArray_toList (xs := v0), e0]
  obtain rfl := List.singleton_inj.1 (show [c0_0] = [Value.int .i64 ((h.1 : S82).f0)] from p0_0)
  obtain rfl := List.singleton_inj.1 (show [c0_1] = [Value.int .i64 ((h.1 : S82).f1)] from p0_1)
  obtain ⟨v1, rfl, q1⟩ := q1
  have q1 := (H82.K _ _ _).1 q1
  match e1 : v1.toList, q1 with
  | [c1_0, c1_1], ⟨p1_0, p1_1, _⟩ =>
  obtain rfl : v1 = #[c1_0, c1_1] := by rw [← Array.toArray_toList (xs := v1), e1]
  obtain rfl := List.singleton_inj.1 (show [c1_0] = [Value.int .i64 ((h.2.1 : S82).f0)] from p1_0)
  obtain rfl := List.singleton_inj.1 (show [c1_1] = [Value.int .i64 ((h.2.1 : S82).f1)] from p1_1)
  refine (impl_BeforePoint.calls (w := w) (h := ht) ).mono ?_
  rintro e w' ⟨he, hw⟩
  exact ⟨_, he, hw, [.bool t], [fun _ => False], rfl, ⟨rfl, trivial⟩, by simp [DJ]⟩⟩
def impl_TurnSegment.Fs : List (Spc env) := []
def impl_TurnSegment.cut : Nat → Option (List (Lv SC)) := lk []
def impl_TurnSegment.ret (r0 : S85) : Option (HL eΓ [.st .s85]) := some (r0, ())
def impl_TurnSegment.run (k : Nat) (h : HL eΓ [.st .s85]) : Option (HL eΓ [.st .s85]) := evF env impl_TurnSegment.Fs Try.f174 impl_TurnSegment.cut [.st .s85] [.st .s85] k h
theorem impl_TurnSegment.ef (k : Nat) (h0 : S85) : impl_TurnSegment.run k (h0, ()) = impl_TurnSegment.ret (⟨(⟨h0.f1.f0, h0.f1.f1⟩ : S82), (⟨h0.f0.f0, h0.f0.f1⟩ : S82)⟩ : S85) := by kernel_rfl
def impl_TurnSegment.toH (t : Int × Int × Int × Int) : HL eΓ [.st .s85] := ((⟨(⟨t.1, t.2.1⟩ : S82), (⟨t.2.2.1, t.2.2.2⟩ : S82)⟩ : S85), ())
def impl_TurnSegment.spec : Spc env := ⟨174, [.st .s85], [.st .s85], impl_TurnSegment.run⟩
def impl_TurnSegment.ap {R : Type} (k : Nat) (h0 : S85) (K : S85 → Option R) : Option R := (impl_TurnSegment.run k (h0, ())).bind fun r => K (r.1 : S85)
theorem impl_TurnSegment.ap_of {R : Type} {k : Nat} {h0 : S85} {r0 : S85} {K : S85 → Option R} (h : impl_TurnSegment.run k (h0, ()) = some (r0, ())) : impl_TurnSegment.ap k h0 K = K r0 := by unfold impl_TurnSegment.ap; rw [h]; rfl
theorem impl_TurnSegment.snd : Snd env impl_TurnSegment.spec := evF_snd env_ok (sndN) (by kernel_rfl) (by kernel_rfl) (by kernel_rfl)
attribute [local irreducible] impl_TurnSegment.run
theorem impl_TurnSegment.rt (a0 : Int) (a1 : Int) (a2 : Int) (a3 : Int) : impl_TurnSegment.ret (⟨(⟨a0, a1⟩ : S82), (⟨a2, a3⟩ : S82)⟩ : S85) = some (impl_TurnSegment.toH (a0, a1, a2, a3)) := rfl
theorem impl_TurnSegment.go {a0_0 : Int} {a0_1 : Int} {a0_2 : Int} {a0_3 : Int} {t} (h : impl_TurnSegment.f a0_0 a0_1 a0_2 a0_3 = some t) (K : Nat) : impl_TurnSegment.run K ((⟨(⟨a0_0, a0_1⟩ : S82), (⟨a0_2, a0_3⟩ : S82)⟩ : S85), ()) = some (impl_TurnSegment.toH t) := by
  rw [impl_TurnSegment.ef]
  (try dsimp only)
  unfold impl_TurnSegment.f at h
  repeat' (with_reducible first
   | exact nos h
   | (cases some_inj h; exact impl_TurnSegment.rt _ _ _ _)
   | (simp only [Option.bind_some] at h)
   | (refine ite_by h (fun hc h => ?_) (fun hc h => ?_) <;> (try simp only [nrm] at hc))
   | refine itT ?_ (by first | assumption | omega | (simp only [nrm]; first | done | assumption | omega) | (simp only [nln] at hc ⊢; omega))
   | refine itF ?_ (by first | assumption | omega | (simp only [nrm]; first | done | assumption | omega) | (simp only [nln] at hc ⊢; omega))
   | (simp only [decide_not, Bool.decide_and, decide_true, Bool.and_true, Bool.not_and, beqI, Int.toNat_natCast, List.take_length] at h ⊢)
   | (exfalso; omega))
def impl_forward.Fs : List (Spc env) := [impl_BeforePoint.spec, impl_TurnSegment.spec]
def impl_forward.cut : Nat → Option (List (Lv SC)) := lk []
def impl_forward.ret (r0 : S85) : Option (HL eΓ [.st .s85]) := some (r0, ())
def impl_forward.run (k : Nat) (h : HL eΓ [.st .s85]) : Option (HL eΓ [.st .s85]) := evF env impl_forward.Fs Try.f169 impl_forward.cut [.st .s85] [.st .s85] k h
theorem impl_forward.ef (k : Nat) (h0 : S85) : impl_forward.run k (h0, ()) = impl_BeforePoint.ap k (⟨h0.f1.f0, h0.f1.f1⟩ : S82) (⟨h0.f0.f0, h0.f0.f1⟩ : S82) fun r1 => if r1 = true then (impl_TurnSegment.ap k (⟨(⟨h0.f0.f0, h0.f0.f1⟩ : S82), (⟨h0.f1.f0, h0.f1.f1⟩ : S82)⟩ : S85) fun r2 => impl_forward.ret (⟨(⟨r2.f0.f0, r2.f0.f1⟩ : S82), (⟨r2.f1.f0, r2.f1.f1⟩ : S82)⟩ : S85)) else (impl_forward.ret (⟨(⟨h0.f0.f0, h0.f0.f1⟩ : S82), (⟨h0.f1.f0, h0.f1.f1⟩ : S82)⟩ : S85)) := by kernel_rfl
def impl_forward.toH (t : Int × Int × Int × Int) : HL eΓ [.st .s85] := ((⟨(⟨t.1, t.2.1⟩ : S82), (⟨t.2.2.1, t.2.2.2⟩ : S82)⟩ : S85), ())
def impl_forward.spec : Spc env := ⟨169, [.st .s85], [.st .s85], impl_forward.run⟩
theorem impl_forward.snd : Snd env impl_forward.spec := evF_snd env_ok (sndC impl_BeforePoint.snd (sndC impl_TurnSegment.snd (sndN))) (by kernel_rfl) (by kernel_rfl) (by kernel_rfl)
attribute [local irreducible] impl_forward.run
theorem impl_forward.rt (a0 : Int) (a1 : Int) (a2 : Int) (a3 : Int) : impl_forward.ret (⟨(⟨a0, a1⟩ : S82), (⟨a2, a3⟩ : S82)⟩ : S85) = some (impl_forward.toH (a0, a1, a2, a3)) := rfl
theorem impl_forward.go {a0_0 : Int} {a0_1 : Int} {a0_2 : Int} {a0_3 : Int} {t} (h : impl_forward.f a0_0 a0_1 a0_2 a0_3 = some t) (K : Nat) : impl_forward.run K ((⟨(⟨a0_0, a0_1⟩ : S82), (⟨a0_2, a0_3⟩ : S82)⟩ : S85), ()) = some (impl_forward.toH t) := by
  rw [impl_forward.ef]
  (try dsimp only)
  unfold impl_forward.f at h
  repeat' (with_reducible first
   | exact nos h
   | (cases some_inj h; exact impl_forward.rt _ _ _ _)
   | (simp only [Option.bind_some] at h)
   | (refine ite_by h (fun hc h => ?_) (fun hc h => ?_) <;> (try simp only [nrm] at hc))
   | refine itT ?_ (by first | assumption | omega | (simp only [nrm]; first | done | assumption | omega) | (simp only [nln] at hc ⊢; omega))
   | refine itF ?_ (by first | assumption | omega | (simp only [nrm]; first | done | assumption | omega) | (simp only [nln] at hc ⊢; omega))
   | (refine bind_by h (fun t ht h => ?_); (first | refine (impl_BeforePoint.ap_of (impl_BeforePoint.go ht _)).trans ?_ | refine (impl_TurnSegment.ap_of (impl_TurnSegment.go ht _)).trans ?_); (try dsimp only at h ⊢))
   | (simp only [decide_not, Bool.decide_and, decide_true, Bool.and_true, Bool.not_and, beqI, Int.toNat_natCast, List.take_length] at h ⊢)
   | (exfalso; omega))
theorem impl_forward.calls (a0_0 : Int) (a0_1 : Int) (a0_2 : Int) (a0_3 : Int) (r1 : Int) (r2 : Int) (r3 : Int) (r4 : Int) (w : World) (h : impl_forward.f a0_0 a0_1 a0_2 a0_3 = some (r1, r2, r3, r4)) :
  Calls Try.prog 169 #[.agg #[.int .i64 a0_0, .int .i64 a0_1, .int .i64 a0_2, .int .i64 a0_3]] w fun e w' => e = .returned (.agg #[.int .i64 r1, .int .i64 r2, .int .i64 r3, .int .i64 r4]) ∧ Below w.heap.size w w' := by
  refine (impl_forward.snd.calls _ _ _ (impl_forward.go h 0) w [.agg #[.int .i64 a0_0, .int .i64 a0_1, .int .i64 a0_2, .int .i64 a0_3]] ⟨⟨_, rfl, (H85.K _ _ _).2 ⟨rfl, rfl, rfl, rfl, trivial⟩⟩, trivial⟩).mono ?_
  rintro e w' ⟨v, rfl, hB, vs, oks, rfl, hR, _⟩
  obtain ⟨x0_, vs, o0_, oks, rfl, rfl, m0_, hR⟩ := rmsC hR
  obtain rfl := rmsN hR
  obtain ⟨y0, rfl, m0_⟩ := m0_
  have m0_ := (H85.M _ _ _ _ _).1 m0_
  match e0 : y0.toList, m0_ with
  | [d0_0, d0_1, d0_2, d0_3], ⟨n0_0, n0_1, n0_2, n0_3, _⟩ =>
  obtain rfl : y0 = #[d0_0, d0_1, d0_2, d0_3] := by rw [← Array.toArray_toList (xs := y0), e0]
  obtain rfl := List.singleton_inj.1 (show [d0_0] = [Value.int .i64 r1] from n0_0)
  obtain rfl := List.singleton_inj.1 (show [d0_1] = [Value.int .i64 r2] from n0_1)
  obtain rfl := List.singleton_inj.1 (show [d0_2] = [Value.int .i64 r3] from n0_2)
  obtain rfl := List.singleton_inj.1 (show [d0_3] = [Value.int .i64 r4] from n0_3)
  exact ⟨rfl, hB⟩
set_option maxHeartbeats 8000000 in
set_option maxRecDepth 100000 in
theorem impl_HowMeet.calls (k : Nat) (a0_0 : Int) (a0_1 : Int) (a0_2 : Int) (a0_3 : Int) (a1_0 : Int) (a1_1 : Int) (a1_2 : Int) (a1_3 : Int) (r : Int) (w : World) (h : impl_HowMeet.f k a0_0 a0_1 a0_2 a0_3 a1_0 a1_1 a1_2 a1_3 = some r) :
  Calls Try.prog 152 #[.agg #[.int .i64 a0_0, .int .i64 a0_1, .int .i64 a0_2, .int .i64 a0_3], .agg #[.int .i64 a1_0, .int .i64 a1_1, .int .i64 a1_2, .int .i64 a1_3]] w fun e w' => e = .returned (.int .i64 r) ∧ Below w.heap.size w w' := by
 have hu85 := Try.underlying85; have hu82 := Try.underlying82; have HB := Aside0.mk (Below.refl w.heap.size w); have H : ((impl_IsSegment.f a0_0 a0_1 a0_2 a0_3).bind fun t292 => (if t292 = true then ((impl_IsSegment.f a1_0 a1_1 a1_2 a1_3).bind fun t293 => (impl_HowMeet.j0 k (!t293) a0_0 a0_1 a0_2 a0_3 a1_0 a1_1 a1_2 a1_3)) else (impl_HowMeet.j0 k true a0_0 a0_1 a0_2 a0_3 a1_0 a1_1 a1_2 a1_3))) = some r := h; clear h; have HC3 := Aside0.mk H; clear H
 go_enter Try.func152, Try.ntmps152
 go_upto_region 1 with (first | ((with_reducible refine gt (some 2) rfl ?_); refine bx #[.int .i64 a0_0, .int .i64 a0_1, .int .i64 a0_2, .int .i64 a0_3] 85 ?_; intro gb290 hg w4 hbox hb; have BK290 := Aside0.mk (hbox); have GW290 := Aside0.mk (gez HB hg); have GE290 := Aside0.mk (gez HB hg); replace HB := Aside0.mk (below_step bz hb); clear hb hbox hg) | ((with_reducible refine gt (some 3) rfl ?_); refine bx #[.int .i64 a1_0, .int .i64 a1_1, .int .i64 a1_2, .int .i64 a1_3] 85 ?_; intro gb291 hg w5 hbox hb; have BK291 := Aside0.mk (hbox); have GW291 := Aside0.mk (gez HB hg); have GE291 := Aside0.mk (gez HB hg); replace HB := Aside0.mk (below_step bzs hb); have NB290_291 := Aside0.mk ((by rw [hg]; exact Nat.ne_of_lt (blk_lt (g := gb290) (o := .cells #[.int .i64 a0_0, .int .i64 a0_1, .int .i64 a0_2, .int .i64 a0_3] 85 (0, 0)) (kz BK290)) : gb290 ≠ gb291)); have NB291_290 := Aside0.mk ((by rw [hg]; exact Nat.ne_of_gt (blk_lt (g := gb290) (o := .cells #[.int .i64 a0_0, .int .i64 a0_1, .int .i64 a0_2, .int .i64 a0_3] 85 (0, 0)) (kz BK290)) : gb291 ≠ gb290)); replace BK290 := Aside0.mk (bbz BK290 hb); clear hb hbox hg))
 (try simp only [Act.put, List.setIfInBounds_toArray, List.set_cons_zero, List.set_cons_succ])
 go_cut [16] (fun v16 wc => ∃ (kq : Nat) (x16_2 : Bool), v16 = .bool x16_2 ∧ Aside0 (impl_HowMeet.j0 kq x16_2 a0_0 a0_1 a0_2 a0_3 a1_0 a1_1 a1_2 a1_3 = some r) ∧ Aside0 (kq ≤ k) ∧ Aside0 (wc.heap[gb290]? = some (.cells #[.int .i64 a0_0, .int .i64 a0_1, .int .i64 a0_2, .int .i64 a0_3] 85 (0, 0))) ∧ Aside0 (wc.heap[gb291]? = some (.cells #[.int .i64 a1_0, .int .i64 a1_1, .int .i64 a1_2, .int .i64 a1_3] 85 (0, 0))) ∧ Aside0 (Below w.heap.size w wc))
 case first =>
  have H := HC3.out; clear HC3; replace H := Option.bind_eq_some_iff.mp H; obtain ⟨t292, A60, H⟩ := H; have A6 := Aside0.mk A60; clear A60
  by_cases c7 : t292 = true
  ·subst c7; replace H := ift H; replace H := Option.bind_eq_some_iff.mp H; obtain ⟨t293, A80, H⟩ := H; have A8 := Aside0.mk A80; clear A80; have H' := Aside0.mk H; clear H; have hnb9 := NB290_291.out; have hnc9 := NB291_290.out; obtain ⟨hcz10_0, hcz10_1, hcz10_2, hcz10_3, hfz10_0, hfz10_1, hfz10_2, hfz10_3⟩ := cells4 BK290; go_wp2_with (first | ((with_reducible refine gt (some 10) rfl ?_); refine gc Try.func151 (impl_IsSegment.calls a0_0 a0_1 a0_2 a0_3 true _ A6.out) ?_; rintro e w11 ⟨rfl, hb⟩; refine ⟨_, rfl, ?_⟩; replace BK290 := Aside0.mk (bbz BK290 hb); replace BK291 := Aside0.mk (bbz BK291 hb); replace HB := Aside0.mk (below_step bzs hb); (try clear hb); obtain ⟨hcz12_0, hcz12_1, hcz12_2, hcz12_3, hfz12_0, hfz12_1, hfz12_2, hfz12_3⟩ := cells4 BK291) | (go_at_call 151; (with_reducible refine (impl_IsSegment.calls a1_0 a1_1 a1_2 a1_3 t293 _ A8.out).mono ?_); rintro e w13 ⟨rfl, hb⟩; replace BK290 := Aside0.mk (bbz BK290 hb); replace BK291 := Aside0.mk (bbz BK291 hb); replace HB := Aside0.mk (below_step bzs hb); (try clear hb)))
   go_meet
   case rel => exact ⟨_, (!t293), rz, H', ⟨qz⟩, ⟨kz BK290⟩, ⟨kz BK291⟩, ⟨bzs⟩⟩
  ·replace c7 := Bool.eq_false_iff.mpr c7; subst c7; replace H := iff_ H; have H' := Aside0.mk H; clear H; have hnb14 := NB290_291.out; have hnc14 := NB291_290.out; obtain ⟨hcz15_0, hcz15_1, hcz15_2, hcz15_3, hfz15_0, hfz15_1, hfz15_2, hfz15_3⟩ := cells4 BK290; go_wp2_with (first | ((with_reducible refine gt (some 10) rfl ?_); refine gc Try.func151 (impl_IsSegment.calls a0_0 a0_1 a0_2 a0_3 false _ A6.out) ?_; rintro e w16 ⟨rfl, hb⟩; refine ⟨_, rfl, ?_⟩; replace BK290 := Aside0.mk (bbz BK290 hb); replace BK291 := Aside0.mk (bbz BK291 hb); replace HB := Aside0.mk (below_step bzs hb); (try clear hb)))
   go_meet
   case rel => exact ⟨_, (true), rz, H', ⟨qz⟩, ⟨kz BK290⟩, ⟨kz BK291⟩, ⟨bzs⟩⟩
 case rest =>
  clear HC3; (try clear c1); (try clear p2); (try clear c7); (try clear c9); (try clear c14); (try clear c15); (try clear hcz10_0); (try clear hcz10_1); (try clear hcz10_2); (try clear hcz10_3); (try clear hcz12_0); (try clear hcz12_1); (try clear hcz12_2); (try clear hcz12_3); (try clear hcz15_0); (try clear hcz15_1); (try clear hcz15_2); (try clear hcz15_3); (try clear hfz10_0); (try clear hfz10_1); (try clear hfz10_2); (try clear hfz10_3); (try clear hfz12_0); (try clear hfz12_1); (try clear hfz12_2); (try clear hfz12_3); (try clear hfz15_0); (try clear hfz15_1); (try clear hfz15_2); (try clear hfz15_3); obtain ⟨kq, x16_2, rfl, HA, HJ2, BK290, BK291, HB⟩ := hcut
  cases kq with
  | zero => exact absurd HA.out (by simp [impl_HowMeet.j0])
  | succ kj2 =>
   have H := HA.out; clear HA; simp only [impl_HowMeet.j0] at H
   by_cases c17 : x16_2 = true
   ·subst c17; replace H := ift H; obtain rfl := Option.some.inj H; go_wp2; go_ret
    exact ⟨ez, bzs⟩
   ·replace c17 := Bool.eq_false_iff.mpr c17; subst c17; replace H := iff_ H; replace H := Option.bind_eq_some_iff.mp H; obtain ⟨t294, A180, H⟩ := H; have A18 := Aside0.mk A180; clear A180; replace H := Option.bind_eq_some_iff.mp H; obtain ⟨t295, A190, H⟩ := H; have A19 := Aside0.mk A190; clear A190; have HC20 := Aside0.mk H; clear H; (try go_wp2); replace BK290 := Aside0.mk (blk_drew BK290.out); replace BK291 := Aside0.mk (blk_drew BK291.out); replace HB := Aside0.mk (below_drew1 HB.out); refine start_ (n := 16) (S := fun w' => w'.cell? ⟨gb290, 0, none⟩ = some (.int .i64 a0_0) ∧ w'.cell? ⟨gb290, 1, none⟩ = some (.int .i64 a0_1) ∧ w'.cell? ⟨gb290, 2, none⟩ = some (.int .i64 a0_2) ∧ w'.cell? ⟨gb290, 3, none⟩ = some (.int .i64 a0_3) ∧ w'.cell? ⟨gb291, 0, none⟩ = some (.int .i64 a1_0) ∧ w'.cell? ⟨gb291, 1, none⟩ = some (.int .i64 a1_1) ∧ w'.cell? ⟨gb291, 2, none⟩ = some (.int .i64 a1_2) ∧ w'.cell? ⟨gb291, 3, none⟩ = some (.int .i64 a1_3)) (ds := []) #[F,F,F,F,F,F,F,F,F,F,F,F,F,F,F,F] (by kernel_rfl) rfl rfl ⟨bc BK290 0, bc BK290 1, bc BK290 2, bc BK290 3, bc BK291 0, bc BK291 1, bc BK291 2, bc BK291 3⟩ (fun hHeld => ?_); refine with_tabW impl_HowMeet.tab3 impl_HowMeet.bits3 (fun HT_ HW_ => ?_); generalize wc.drew = w21 at BK290 BK291 HB hHeld ⊢; refine pz HT_ 0 17 ?_; refine pz HT_ 2 19 ?_; refine pz HT_ 4 21 ?_; refine pz HT_ 7 24 ?_; refine pz HT_ 9 26 ?_; refine pz HT_ 11 28 ?_; refine tz8 HT_ HW_ hHeld 1 18 ?_; refine tz8 HT_ HW_ hHeld 3 20 ?_; refine tz8 HT_ HW_ hHeld 5 22 ?_; refine tz8 HT_ HW_ hHeld 8 25 ?_; refine tz8 HT_ HW_ hHeld 10 27 ?_; refine tz8 HT_ HW_ hHeld 12 29 ?_
    refine oz HT_ 6 (some 23) (fun K hK => ?_); refine gz Try.func167 #[.agg #[.int .i64 a0_0, .int .i64 a0_1], .agg #[.int .i64 a0_2, .int .i64 a0_3], .agg #[.int .i64 a1_0, .int .i64 a1_1]] ?_
    with_reducible refine (impl_SideOf.calls a0_0 a0_1 a0_2 a0_3 a1_0 a1_1 t294 _ A18.out).mono ?_
    rintro e w22 ⟨rfl, hb⟩; refine ⟨_, rfl, ?_⟩; replace BK290 := Aside0.mk (bbz BK290 hb); replace BK291 := Aside0.mk (bbz BK291 hb); replace HB := Aside0.mk (below_step bzs hb); (try clear hb); (try clear hb2); (try clear hk); (try clear hi); refine hK.out _ _ ⟨bc BK290 0, bc BK290 1, bc BK290 2, bc BK290 3, bc BK291 0, bc BK291 1, bc BK291 2, bc BK291 3⟩ (fun hHeld => ?_); clear hK K; refine nz 23 ?_; refine oz HT_ 13 (some 30) (fun K hK => ?_); refine gz Try.func167 #[.agg #[.int .i64 a0_0, .int .i64 a0_1], .agg #[.int .i64 a0_2, .int .i64 a0_3], .agg #[.int .i64 a1_2, .int .i64 a1_3]] ?_
    with_reducible refine (impl_SideOf.calls a0_0 a0_1 a0_2 a0_3 a1_2 a1_3 t295 _ A19.out).mono ?_
    rintro e w23 ⟨rfl, hb⟩; refine ⟨_, rfl, ?_⟩; replace BK290 := Aside0.mk (bbz BK290 hb); replace BK291 := Aside0.mk (bbz BK291 hb); replace HB := Aside0.mk (below_step bzs hb); (try clear hb); (try clear hb2); (try clear hk); (try clear hi); refine hK.out _ _ ⟨bc BK290 0, bc BK290 1, bc BK290 2, bc BK290 3, bc BK291 0, bc BK291 1, bc BK291 2, bc BK291 3⟩ (fun hHeld => ?_); clear hK K; refine nz 30 ?_; refine pz HT_ 14 5 ?_; refine pz HT_ 15 6 ?_; refine dz HT_ ?_
    go_upto_region 4 with (fail)
    go_cut [36] (fun v36 wc => ∃ (kq : Nat) (x36_19 : Bool), v36 = .bool x36_19 ∧ Aside0 (impl_HowMeet.j1 kq t294 t295 x36_19 a0_0 a0_1 a0_2 a0_3 a1_0 a1_1 a1_2 a1_3 = some r) ∧ Aside0 (kq ≤ kj2) ∧ Aside0 (wc.heap[gb290]? = some (.cells #[.int .i64 a0_0, .int .i64 a0_1, .int .i64 a0_2, .int .i64 a0_3] 85 (0, 0))) ∧ Aside0 (wc.heap[gb291]? = some (.cells #[.int .i64 a1_0, .int .i64 a1_1, .int .i64 a1_2, .int .i64 a1_3] 85 (0, 0))) ∧ Aside0 (Below w.heap.size w wc))
    case first =>
     have H := HC20.out; clear HC20
     by_cases c24 : t294 = 0
     ·rw [if_pos c24] at H; have c24b0 : (t294 == 0) = true := beq_iff_eq.mpr c24; have c24b1 : (t294 != 0) = false := bne_eq_false_iff_eq.mpr c24; clear c24
      (first | rw [c24b0] | (simp only [i64_w, i32_w]; rw [c24b0]) | skip)
      have H' := Aside0.mk H; clear H; go_wp2
      go_meet
      case rel => exact ⟨_, ((t295 == 0)), rz, H', ⟨by have := HJ2.out; first | omega | exact Nat.le_refl _⟩, ⟨kz BK290⟩, ⟨kz BK291⟩, ⟨bzs⟩⟩
     ·rw [if_neg c24] at H; have c24b0 : (t294 == 0) = false := beq_eq_false_iff_ne.mpr c24; have c24b1 : (t294 != 0) = true := bne_iff_ne.mpr c24
      (first | rw [c24b0] | (simp only [i64_w, i32_w]; rw [c24b0]) | skip)
      have H' := Aside0.mk H; clear H; go_wp2
      go_meet
      case rel => exact ⟨_, (false), rz, H', ⟨by have := HJ2.out; first | omega | exact Nat.le_refl _⟩, ⟨kz BK290⟩, ⟨kz BK291⟩, ⟨bzs⟩⟩
    case rest =>
     clear HC20; (try clear c1); (try clear c2); (try clear p2); (try clear c7); (try clear c9); (try clear c14); (try clear c15); (try clear c16); (try clear c17); (try clear c24); (try clear c24b0); (try clear c24b1); (try clear hcz10_0); (try clear hcz10_1); (try clear hcz10_2); (try clear hcz10_3); (try clear hcz12_0); (try clear hcz12_1); (try clear hcz12_2); (try clear hcz12_3); (try clear hcz15_0); (try clear hcz15_1); (try clear hcz15_2); (try clear hcz15_3); (try clear hfz10_0); (try clear hfz10_1); (try clear hfz10_2); (try clear hfz10_3); (try clear hfz12_0); (try clear hfz12_1); (try clear hfz12_2); (try clear hfz12_3); (try clear hfz15_0); (try clear hfz15_1); (try clear hfz15_2); (try clear hfz15_3); (try clear p2); obtain ⟨kq, x36_19, rfl, HA, HJ19, BK290, BK291, HB⟩ := hcut
     cases kq with
     | zero => exact absurd HA.out (by simp [impl_HowMeet.j1])
     | succ kj19 =>
      have H := HA.out; clear HA; simp only [impl_HowMeet.j1] at H
      by_cases c25 : x36_19 = true
      ·subst c25; replace H := ift H; replace H := Option.bind_eq_some_iff.mp H; obtain ⟨⟨t296, t297, t298, t299⟩, A260, H⟩ := H; replace H : ((impl_forward.f a1_0 a1_1 a1_2 a1_3).bind fun bt300 => ((impl_BeforePoint.f t296 t297 bt300.1 bt300.2.1).bind fun t306 => (if t306 = true then (impl_HowMeet.j2 kj19 bt300.1 bt300.2.1 bt300.2.2.1 bt300.2.2.2 bt300.1 bt300.2.1 t298 t299) else (impl_HowMeet.j2 kj19 bt300.1 bt300.2.1 bt300.2.2.1 bt300.2.2.2 t296 t297 t298 t299)))) = some r := H; have A26 := Aside0.mk A260; clear A260; replace H := Option.bind_eq_some_iff.mp H; obtain ⟨⟨t300, t301, t302, t303⟩, A270, H⟩ := H; replace H : ((impl_BeforePoint.f t296 t297 t300 t301).bind fun t306 => (if t306 = true then (impl_HowMeet.j2 kj19 t300 t301 t302 t303 t300 t301 t298 t299) else (impl_HowMeet.j2 kj19 t300 t301 t302 t303 t296 t297 t298 t299))) = some r := H; have A27 := Aside0.mk A270; clear A270; replace H := Option.bind_eq_some_iff.mp H; obtain ⟨t306, A280, H⟩ := H; have A28 := Aside0.mk A280; clear A280; have HC29 := Aside0.mk H; clear H; (try go_wp2); replace BK290 := Aside0.mk (blk_drew BK290.out); replace BK291 := Aside0.mk (blk_drew BK291.out); replace HB := Aside0.mk (below_drew1 HB.out); refine start_ (n := 6) (S := fun w' => w'.cell? ⟨gb290, 0, none⟩ = some (.int .i64 a0_0) ∧ w'.cell? ⟨gb290, 1, none⟩ = some (.int .i64 a0_1) ∧ w'.cell? ⟨gb290, 2, none⟩ = some (.int .i64 a0_2) ∧ w'.cell? ⟨gb290, 3, none⟩ = some (.int .i64 a0_3) ∧ w'.cell? ⟨gb291, 0, none⟩ = some (.int .i64 a1_0) ∧ w'.cell? ⟨gb291, 1, none⟩ = some (.int .i64 a1_1) ∧ w'.cell? ⟨gb291, 2, none⟩ = some (.int .i64 a1_2) ∧ w'.cell? ⟨gb291, 3, none⟩ = some (.int .i64 a1_3)) (ds := [4, 5]) #[F,F,F,F,F,F] (by kernel_rfl) rfl rfl ⟨bc BK290 0, bc BK290 1, bc BK290 2, bc BK290 3, bc BK291 0, bc BK291 1, bc BK291 2, bc BK291 3⟩ (fun hHeld => ?_)
       generalize wc.drew = w30 at BK290 BK291 HB hHeld ⊢; refine take_ (i := 0) (N := some 37) (v := ?_) (a' := ?_) #[T,F,F,F,F,F] rfl rfl (by kernel_rfl) (fun _ _ _ h => h) (Or.inl ⟨by rfl, ?_⟩) hHeld ?_ ?_; rotate_left
       ·rintro w' ⟨s0, s1, s2, s3, s4, s5, s6, s7⟩; go_simp
        with_reducible rfl
       rotate_left
       ·simp only [Act.put, List.setIfInBounds_toArray, List.set_cons_zero, List.set_cons_succ, i64_w, i32_w]
        rfl
       refine take_ (i := 2) (N := some 39) (v := ?_) (a' := ?_) #[T,F,T,F,F,F] rfl rfl (by kernel_rfl) (fun _ _ _ h => h) (Or.inl ⟨by rfl, ?_⟩) hHeld ?_ ?_; rotate_left
       ·rintro w' ⟨s0, s1, s2, s3, s4, s5, s6, s7⟩; go_simp
        with_reducible rfl
       rotate_left
       ·simp only [Act.put, List.setIfInBounds_toArray, List.set_cons_zero, List.set_cons_succ, i64_w, i32_w]
        rfl
       refine one_ (i := 1) (N := some 38) #[T,T,T,F,F,F] rfl rfl (by kernel_rfl) (by decide) (fun K hK => ?_); refine gz Try.func169 #[.agg #[.int .i64 a0_0, .int .i64 a0_1, .int .i64 a0_2, .int .i64 a0_3]] ?_
       with_reducible refine (impl_forward.calls a0_0 a0_1 a0_2 a0_3 t296 t297 t298 t299 _ A26.out).mono ?_
       rintro e w31 ⟨rfl, hb⟩; refine ⟨_, rfl, ?_⟩; replace BK290 := Aside0.mk (bbz BK290 hb); replace BK291 := Aside0.mk (bbz BK291 hb); replace HB := Aside0.mk (below_step bzs hb); (try clear hb); (try clear hb2); (try clear hk); (try clear hi); refine hK.out _ _ ⟨bc BK290 0, bc BK290 1, bc BK290 2, bc BK290 3, bc BK291 0, bc BK291 1, bc BK291 2, bc BK291 3⟩ (fun hHeld => ?_); clear hK K; refine nz 38 ?_; refine one_ (i := 3) (N := some 40) #[T,T,T,T,F,F] rfl rfl (by kernel_rfl) (by decide) (fun K hK => ?_); refine gz Try.func169 #[.agg #[.int .i64 a1_0, .int .i64 a1_1, .int .i64 a1_2, .int .i64 a1_3]] ?_
       with_reducible refine (impl_forward.calls a1_0 a1_1 a1_2 a1_3 t300 t301 t302 t303 _ A27.out).mono ?_
       rintro e w32 ⟨rfl, hb⟩; refine ⟨_, rfl, ?_⟩; replace BK290 := Aside0.mk (bbz BK290 hb); replace BK291 := Aside0.mk (bbz BK291 hb); replace HB := Aside0.mk (below_step bzs hb); (try clear hb); (try clear hb2); (try clear hk); (try clear hi); refine hK.out _ _ ⟨bc BK290 0, bc BK290 1, bc BK290 2, bc BK290 3, bc BK291 0, bc BK291 1, bc BK291 2, bc BK291 3⟩ (fun hHeld => ?_); clear hK K; refine nz 40 ?_; refine last_ (i := 4) (N := none) #[T,T,T,T,T,F] rfl rfl (by kernel_rfl) (by decide) (fun K hK => ?_); have hs33 : w32.cell? ⟨gb290, 0, none⟩ = some (.int .i64 a0_0) := bc BK290 0; have hfs33 := blk_frozen BK290.out 0; have hns33_1 := NB291_290.out; have hms33_1 := NB290_291.out; have hs34 : w32.cell? ⟨gb290, 1, none⟩ = some (.int .i64 a0_1) := bc BK290 1; have hfs34 := blk_frozen BK290.out 1; have hns34_1 := NB291_290.out; have hms34_1 := NB290_291.out; have hs35 : w32.cell? ⟨gb290, 2, none⟩ = some (.int .i64 a0_2) := bc BK290 2; have hfs35 := blk_frozen BK290.out 2; have hns35_1 := NB291_290.out; have hms35_1 := NB290_291.out; have hs36 : w32.cell? ⟨gb290, 3, none⟩ = some (.int .i64 a0_3) := bc BK290 3; have hfs36 := blk_frozen BK290.out 3; have hns36_1 := NB291_290.out; have hms36_1 := NB290_291.out; refine skip_ (w1 := ?_) (by rfl) rfl ?_ ?_; rotate_left
       ·go_simp
        rfl
       refine hK.out _ _ ?_; clear hK K; refine last_ (i := 5) (N := none) #[T,T,T,T,T,T] rfl rfl (by kernel_rfl) (by decide) (fun K hK => ?_); have hs37 : w32.cell? ⟨gb291, 0, none⟩ = some (.int .i64 a1_0) := bc BK291 0; have hfs37 := blk_frozen BK291.out 0; have hns37_0 := NB290_291.out; have hms37_0 := NB291_290.out; have hs38 : w32.cell? ⟨gb291, 1, none⟩ = some (.int .i64 a1_1) := bc BK291 1; have hfs38 := blk_frozen BK291.out 1; have hns38_0 := NB290_291.out; have hms38_0 := NB291_290.out; have hs39 : w32.cell? ⟨gb291, 2, none⟩ = some (.int .i64 a1_2) := bc BK291 2; have hfs39 := blk_frozen BK291.out 2; have hns39_0 := NB290_291.out; have hms39_0 := NB291_290.out; have hs40 : w32.cell? ⟨gb291, 3, none⟩ = some (.int .i64 a1_3) := bc BK291 3; have hfs40 := blk_frozen BK291.out 3; have hns40_0 := NB290_291.out; have hms40_0 := NB291_290.out; refine skip_ (w1 := ?_) (by rfl) rfl ?_ ?_; rotate_left
       ·go_simp
        rfl
       refine hK.out _ _ ?_; clear hK K; refine done_ (by kernel_rfl) ?_; (try go_wp2); have n0_ : Aside0 (((((((((w32.setCell ⟨gb290, 0, none⟩ (.int .i64 t296)).setCell ⟨gb290, 1, none⟩ (.int .i64 t297)).setCell ⟨gb290, 2, none⟩ (.int .i64 t298)).setCell ⟨gb290, 3, none⟩ (.int .i64 t299)).setCell ⟨gb291, 0, none⟩ (.int .i64 t300)).setCell ⟨gb291, 1, none⟩ (.int .i64 t301)).setCell ⟨gb291, 2, none⟩ (.int .i64 t302)).setCell ⟨gb291, 3, none⟩ (.int .i64 t303)).heap[gb290]? = some (.cells #[.int .i64 t296, .int .i64 t297, .int .i64 t298, .int .i64 t299] 85 (0, 0))) := ⟨by (with_reducible repeat (first | refine blk_drewN ?_ _ | refine blk_drew ?_ | refine blk_alloc ?_ _)); refine blk_far ?_ NB290_291.out _; (with_reducible repeat (first | refine blk_drewN ?_ _ | refine blk_drew ?_ | refine blk_alloc ?_ _)); refine blk_far ?_ NB290_291.out _; (with_reducible repeat (first | refine blk_drewN ?_ _ | refine blk_drew ?_ | refine blk_alloc ?_ _)); refine blk_far ?_ NB290_291.out _; (with_reducible repeat (first | refine blk_drewN ?_ _ | refine blk_drew ?_ | refine blk_alloc ?_ _)); refine blk_far ?_ NB290_291.out _; (with_reducible repeat (first | refine blk_drewN ?_ _ | refine blk_drew ?_ | refine blk_alloc ?_ _)); refine blk_put (cs := #[.int .i64 t296, .int .i64 t297, .int .i64 t298, .int .i64 a0_3]) ?_ 3 _ rfl; (with_reducible repeat (first | refine blk_drewN ?_ _ | refine blk_drew ?_ | refine blk_alloc ?_ _)); refine blk_put (cs := #[.int .i64 t296, .int .i64 t297, .int .i64 a0_2, .int .i64 a0_3]) ?_ 2 _ rfl; (with_reducible repeat (first | refine blk_drewN ?_ _ | refine blk_drew ?_ | refine blk_alloc ?_ _)); refine blk_put (cs := #[.int .i64 t296, .int .i64 a0_1, .int .i64 a0_2, .int .i64 a0_3]) ?_ 1 _ rfl; (with_reducible repeat (first | refine blk_drewN ?_ _ | refine blk_drew ?_ | refine blk_alloc ?_ _)); refine blk_put (cs := #[.int .i64 a0_0, .int .i64 a0_1, .int .i64 a0_2, .int .i64 a0_3]) ?_ 0 _ rfl; (with_reducible repeat (first | refine blk_drewN ?_ _ | refine blk_drew ?_ | refine blk_alloc ?_ _)); exact BK290.out⟩
       have n1_ : Aside0 (((((((((w32.setCell ⟨gb290, 0, none⟩ (.int .i64 t296)).setCell ⟨gb290, 1, none⟩ (.int .i64 t297)).setCell ⟨gb290, 2, none⟩ (.int .i64 t298)).setCell ⟨gb290, 3, none⟩ (.int .i64 t299)).setCell ⟨gb291, 0, none⟩ (.int .i64 t300)).setCell ⟨gb291, 1, none⟩ (.int .i64 t301)).setCell ⟨gb291, 2, none⟩ (.int .i64 t302)).setCell ⟨gb291, 3, none⟩ (.int .i64 t303)).heap[gb291]? = some (.cells #[.int .i64 t300, .int .i64 t301, .int .i64 t302, .int .i64 t303] 85 (0, 0))) := ⟨by (with_reducible repeat (first | refine blk_drewN ?_ _ | refine blk_drew ?_ | refine blk_alloc ?_ _)); refine blk_put (cs := #[.int .i64 t300, .int .i64 t301, .int .i64 t302, .int .i64 a1_3]) ?_ 3 _ rfl; (with_reducible repeat (first | refine blk_drewN ?_ _ | refine blk_drew ?_ | refine blk_alloc ?_ _)); refine blk_put (cs := #[.int .i64 t300, .int .i64 t301, .int .i64 a1_2, .int .i64 a1_3]) ?_ 2 _ rfl; (with_reducible repeat (first | refine blk_drewN ?_ _ | refine blk_drew ?_ | refine blk_alloc ?_ _)); refine blk_put (cs := #[.int .i64 t300, .int .i64 a1_1, .int .i64 a1_2, .int .i64 a1_3]) ?_ 1 _ rfl; (with_reducible repeat (first | refine blk_drewN ?_ _ | refine blk_drew ?_ | refine blk_alloc ?_ _)); refine blk_put (cs := #[.int .i64 a1_0, .int .i64 a1_1, .int .i64 a1_2, .int .i64 a1_3]) ?_ 0 _ rfl; (with_reducible repeat (first | refine blk_drewN ?_ _ | refine blk_drew ?_ | refine blk_alloc ?_ _)); refine blk_far ?_ NB291_290.out _; (with_reducible repeat (first | refine blk_drewN ?_ _ | refine blk_drew ?_ | refine blk_alloc ?_ _)); refine blk_far ?_ NB291_290.out _; (with_reducible repeat (first | refine blk_drewN ?_ _ | refine blk_drew ?_ | refine blk_alloc ?_ _)); refine blk_far ?_ NB291_290.out _; (with_reducible repeat (first | refine blk_drewN ?_ _ | refine blk_drew ?_ | refine blk_alloc ?_ _)); refine blk_far ?_ NB291_290.out _; (with_reducible repeat (first | refine blk_drewN ?_ _ | refine blk_drew ?_ | refine blk_alloc ?_ _)); exact BK291.out⟩
       have n2_ : Aside0 (Below w.heap.size w ((((((((w32.setCell ⟨gb290, 0, none⟩ (.int .i64 t296)).setCell ⟨gb290, 1, none⟩ (.int .i64 t297)).setCell ⟨gb290, 2, none⟩ (.int .i64 t298)).setCell ⟨gb290, 3, none⟩ (.int .i64 t299)).setCell ⟨gb291, 0, none⟩ (.int .i64 t300)).setCell ⟨gb291, 1, none⟩ (.int .i64 t301)).setCell ⟨gb291, 2, none⟩ (.int .i64 t302)).setCell ⟨gb291, 3, none⟩ (.int .i64 t303))) := ⟨bzs⟩
       (try clear BK290); (try clear BK291); (try clear HB); generalize ((((((((w32.setCell ⟨gb290, 0, none⟩ (.int .i64 t296)).setCell ⟨gb290, 1, none⟩ (.int .i64 t297)).setCell ⟨gb290, 2, none⟩ (.int .i64 t298)).setCell ⟨gb290, 3, none⟩ (.int .i64 t299)).setCell ⟨gb291, 0, none⟩ (.int .i64 t300)).setCell ⟨gb291, 1, none⟩ (.int .i64 t301)).setCell ⟨gb291, 2, none⟩ (.int .i64 t302)).setCell ⟨gb291, 3, none⟩ (.int .i64 t303)) = w41 at n0_ n1_ n2_ ⊢; have BK290 := n0_; have BK291 := n1_; have HB := n2_; clear n0_ n1_ n2_; replace BK290 := Aside0.mk (blk_drew BK290.out); replace BK291 := Aside0.mk (blk_drew BK291.out); replace HB := Aside0.mk (below_drew1 HB.out); refine start_ (n := 8) (S := fun w' => w'.cell? ⟨gb290, 0, none⟩ = some (.int .i64 t296) ∧ w'.cell? ⟨gb290, 1, none⟩ = some (.int .i64 t297) ∧ w'.cell? ⟨gb290, 2, none⟩ = some (.int .i64 t298) ∧ w'.cell? ⟨gb290, 3, none⟩ = some (.int .i64 t299)) (ds := []) #[F,F,F,F,F,F,F,F] (by kernel_rfl) rfl rfl ⟨bc BK290 0, bc BK290 1, bc BK290 2, bc BK290 3⟩ (fun hHeld => ?_); refine with_tabW impl_HowMeet.tab6 impl_HowMeet.bits6 (fun HT_ HW_ => ?_); generalize w41.drew = w42 at BK290 BK291 HB hHeld ⊢; refine pz HT_ 0 41 ?_; refine pz HT_ 2 43 ?_; refine tz4 HT_ HW_ hHeld 1 42 ?_; refine tz4 HT_ HW_ hHeld 3 44 ?_; refine join_ (σ := Nat × Nat) 2 #[T,T,T,T,T,T,F,F] (fun s_ => [(7, .pointer (some ⟨s_.1, 0, none⟩)), (8, .pointer (some ⟨s_.2, 0, none⟩))]) (fun s_ w' => (w'.cell? ⟨gb290, 0, none⟩ = some (.int .i64 t296) ∧ w'.cell? ⟨gb290, 1, none⟩ = some (.int .i64 t297) ∧ w'.cell? ⟨gb290, 2, none⟩ = some (.int .i64 t298) ∧ w'.cell? ⟨gb290, 3, none⟩ = some (.int .i64 t299)) ∧ (w'.heap[gb290]? = some (.cells #[.int .i64 t296, .int .i64 t297, .int .i64 t298, .int .i64 t299] 85 (0, 0))) ∧ (w'.heap[gb291]? = some (.cells #[.int .i64 t300, .int .i64 t301, .int .i64 t302, .int .i64 t303] 85 (0, 0))) ∧ (w'.heap[s_.1]? = some (.cells #[.int .i64 0, .int .i64 0] 82 (0, 0))) ∧ (w'.heap[s_.2]? = some (.cells #[.int .i64 0, .int .i64 0] 82 (0, 0))) ∧ (w.heap.size ≤ s_.1) ∧ (w.heap.size ≤ s_.1) ∧ (gb290 ≠ s_.1) ∧ (s_.1 ≠ gb290) ∧ (gb291 ≠ s_.1) ∧ (s_.1 ≠ gb291) ∧ (s_.2 ≠ s_.1) ∧ (s_.1 ≠ s_.2) ∧ (w.heap.size ≤ s_.2) ∧ (w.heap.size ≤ s_.2) ∧ (gb290 ≠ s_.2) ∧ (s_.2 ≠ gb290) ∧ (gb291 ≠ s_.2) ∧ (s_.2 ≠ gb291) ∧ (Below w.heap.size w w')) ?_ ?_
       rotate_left
       ·intro hCont; refine two_ (i := 4) (j := 5) (Ni := some 7) (Nj := some 8) #[T,T,T,T,T,F,F,F] #[T,T,T,T,F,T,F,F] rfl rfl rfl rfl (two_of HT_.out (by kernel_rfl)) (by decide) (by decide) (fun K hK => ?_) (fun K hK => ?_)
        ·skip
         refine box_step ?hg (N := 7) ?hd (cs := #[.int .i64 0, .int .i64 0]) (t := 82) ?hr ?_; (case hd => rfl); (case hg => rfl); (case hr => first | (go_simp; done) | (go_simp; rfl)); intro gb304 hg w43 hbox hb; have BK304 := Aside0.mk (hbox); have GW304 := Aside0.mk (gez HB hg); have GE304 := Aside0.mk (gez HB hg); replace HB := Aside0.mk (below_step bzs hb); have NB290_304 := Aside0.mk ((by rw [hg]; exact Nat.ne_of_lt (blk_lt (g := gb290) (o := .cells #[.int .i64 t296, .int .i64 t297, .int .i64 t298, .int .i64 t299] 85 (0, 0)) (kz BK290)) : gb290 ≠ gb304)); have NB304_290 := Aside0.mk ((by rw [hg]; exact Nat.ne_of_gt (blk_lt (g := gb290) (o := .cells #[.int .i64 t296, .int .i64 t297, .int .i64 t298, .int .i64 t299] 85 (0, 0)) (kz BK290)) : gb304 ≠ gb290)); replace BK290 := Aside0.mk (bbz BK290 hb); have NB291_304 := Aside0.mk ((by rw [hg]; exact Nat.ne_of_lt (blk_lt (g := gb291) (o := .cells #[.int .i64 t300, .int .i64 t301, .int .i64 t302, .int .i64 t303] 85 (0, 0)) (kz BK291)) : gb291 ≠ gb304)); have NB304_291 := Aside0.mk ((by rw [hg]; exact Nat.ne_of_gt (blk_lt (g := gb291) (o := .cells #[.int .i64 t300, .int .i64 t301, .int .i64 t302, .int .i64 t303] 85 (0, 0)) (kz BK291)) : gb304 ≠ gb291)); replace BK291 := Aside0.mk (bbz BK291 hb); clear hb hbox hg; refine hK.out _ _ ⟨bc BK290 0, bc BK290 1, bc BK290 2, bc BK290 3⟩ (fun hHeld => ?_); clear hK K; refine nz 7 ?_; refine oz HT_ 5 (some 8) (fun K hK => ?_); refine box_step ?hg (N := 8) ?hd (cs := #[.int .i64 0, .int .i64 0]) (t := 82) ?hr ?_; (case hd => rfl); (case hg => rfl); (case hr => first | (go_simp; done) | (go_simp; rfl))
         intro gb305 hg w44 hbox hb; have BK305 := Aside0.mk (hbox); have GW305 := Aside0.mk (gez HB hg); have GE305 := Aside0.mk (gez HB hg); replace HB := Aside0.mk (below_step bzs hb); have NB290_305 := Aside0.mk ((by rw [hg]; exact Nat.ne_of_lt (blk_lt (g := gb290) (o := .cells #[.int .i64 t296, .int .i64 t297, .int .i64 t298, .int .i64 t299] 85 (0, 0)) (kz BK290)) : gb290 ≠ gb305)); have NB305_290 := Aside0.mk ((by rw [hg]; exact Nat.ne_of_gt (blk_lt (g := gb290) (o := .cells #[.int .i64 t296, .int .i64 t297, .int .i64 t298, .int .i64 t299] 85 (0, 0)) (kz BK290)) : gb305 ≠ gb290)); replace BK290 := Aside0.mk (bbz BK290 hb); have NB291_305 := Aside0.mk ((by rw [hg]; exact Nat.ne_of_lt (blk_lt (g := gb291) (o := .cells #[.int .i64 t300, .int .i64 t301, .int .i64 t302, .int .i64 t303] 85 (0, 0)) (kz BK291)) : gb291 ≠ gb305)); have NB305_291 := Aside0.mk ((by rw [hg]; exact Nat.ne_of_gt (blk_lt (g := gb291) (o := .cells #[.int .i64 t300, .int .i64 t301, .int .i64 t302, .int .i64 t303] 85 (0, 0)) (kz BK291)) : gb305 ≠ gb291)); replace BK291 := Aside0.mk (bbz BK291 hb); have NB304_305 := Aside0.mk ((by rw [hg]; exact Nat.ne_of_lt (blk_lt (g := gb304) (o := .cells #[.int .i64 0, .int .i64 0] 82 (0, 0)) (kz BK304)) : gb304 ≠ gb305)); have NB305_304 := Aside0.mk ((by rw [hg]; exact Nat.ne_of_gt (blk_lt (g := gb304) (o := .cells #[.int .i64 0, .int .i64 0] 82 (0, 0)) (kz BK304)) : gb305 ≠ gb304)); replace BK304 := Aside0.mk (bbz BK304 hb); clear hb hbox hg; refine hK.out _ _ ⟨bc BK290 0, bc BK290 1, bc BK290 2, bc BK290 3⟩ (fun hHeld => ?_)
         clear hK K; refine nz 8 ?_
         exact norm_ (by simp only [putAll, Act.put, List.setIfInBounds_toArray, List.set_cons_zero, List.set_cons_succ]) (hCont (gb304, gb305) _ ⟨hHeld, (kz BK290), (kz BK291), (kz BK304), (kz BK305), GW304.out, GE304.out, NB290_304.out, NB304_290.out, NB291_304.out, NB304_291.out, NB305_304.out, NB304_305.out, GW305.out, GE305.out, NB290_305.out, NB305_290.out, NB291_305.out, NB305_291.out, bzs⟩)
        ·skip
         refine box_step ?hg (N := 8) ?hd (cs := #[.int .i64 0, .int .i64 0]) (t := 82) ?hr ?_; (case hd => rfl); (case hg => rfl); (case hr => first | (go_simp; done) | (go_simp; rfl)); intro gb305 hg w43 hbox hb; have BK305 := Aside0.mk (hbox); have GW305 := Aside0.mk (gez HB hg); have GE305 := Aside0.mk (gez HB hg); replace HB := Aside0.mk (below_step bzs hb); have NB290_305 := Aside0.mk ((by rw [hg]; exact Nat.ne_of_lt (blk_lt (g := gb290) (o := .cells #[.int .i64 t296, .int .i64 t297, .int .i64 t298, .int .i64 t299] 85 (0, 0)) (kz BK290)) : gb290 ≠ gb305)); have NB305_290 := Aside0.mk ((by rw [hg]; exact Nat.ne_of_gt (blk_lt (g := gb290) (o := .cells #[.int .i64 t296, .int .i64 t297, .int .i64 t298, .int .i64 t299] 85 (0, 0)) (kz BK290)) : gb305 ≠ gb290)); replace BK290 := Aside0.mk (bbz BK290 hb); have NB291_305 := Aside0.mk ((by rw [hg]; exact Nat.ne_of_lt (blk_lt (g := gb291) (o := .cells #[.int .i64 t300, .int .i64 t301, .int .i64 t302, .int .i64 t303] 85 (0, 0)) (kz BK291)) : gb291 ≠ gb305)); have NB305_291 := Aside0.mk ((by rw [hg]; exact Nat.ne_of_gt (blk_lt (g := gb291) (o := .cells #[.int .i64 t300, .int .i64 t301, .int .i64 t302, .int .i64 t303] 85 (0, 0)) (kz BK291)) : gb305 ≠ gb291)); replace BK291 := Aside0.mk (bbz BK291 hb); clear hb hbox hg; refine hK.out _ _ ⟨bc BK290 0, bc BK290 1, bc BK290 2, bc BK290 3⟩ (fun hHeld => ?_); clear hK K; refine nz 8 ?_; refine oz HT_ 4 (some 7) (fun K hK => ?_); refine box_step ?hg (N := 7) ?hd (cs := #[.int .i64 0, .int .i64 0]) (t := 82) ?hr ?_; (case hd => rfl); (case hg => rfl); (case hr => first | (go_simp; done) | (go_simp; rfl))
         intro gb304 hg w44 hbox hb; have BK304 := Aside0.mk (hbox); have GW304 := Aside0.mk (gez HB hg); have GE304 := Aside0.mk (gez HB hg); replace HB := Aside0.mk (below_step bzs hb); have NB290_304 := Aside0.mk ((by rw [hg]; exact Nat.ne_of_lt (blk_lt (g := gb290) (o := .cells #[.int .i64 t296, .int .i64 t297, .int .i64 t298, .int .i64 t299] 85 (0, 0)) (kz BK290)) : gb290 ≠ gb304)); have NB304_290 := Aside0.mk ((by rw [hg]; exact Nat.ne_of_gt (blk_lt (g := gb290) (o := .cells #[.int .i64 t296, .int .i64 t297, .int .i64 t298, .int .i64 t299] 85 (0, 0)) (kz BK290)) : gb304 ≠ gb290)); replace BK290 := Aside0.mk (bbz BK290 hb); have NB291_304 := Aside0.mk ((by rw [hg]; exact Nat.ne_of_lt (blk_lt (g := gb291) (o := .cells #[.int .i64 t300, .int .i64 t301, .int .i64 t302, .int .i64 t303] 85 (0, 0)) (kz BK291)) : gb291 ≠ gb304)); have NB304_291 := Aside0.mk ((by rw [hg]; exact Nat.ne_of_gt (blk_lt (g := gb291) (o := .cells #[.int .i64 t300, .int .i64 t301, .int .i64 t302, .int .i64 t303] 85 (0, 0)) (kz BK291)) : gb304 ≠ gb291)); replace BK291 := Aside0.mk (bbz BK291 hb); have NB305_304 := Aside0.mk ((by rw [hg]; exact Nat.ne_of_lt (blk_lt (g := gb305) (o := .cells #[.int .i64 0, .int .i64 0] 82 (0, 0)) (kz BK305)) : gb305 ≠ gb304)); have NB304_305 := Aside0.mk ((by rw [hg]; exact Nat.ne_of_gt (blk_lt (g := gb305) (o := .cells #[.int .i64 0, .int .i64 0] 82 (0, 0)) (kz BK305)) : gb304 ≠ gb305)); replace BK305 := Aside0.mk (bbz BK305 hb); clear hb hbox hg; refine hK.out _ _ ⟨bc BK290 0, bc BK290 1, bc BK290 2, bc BK290 3⟩ (fun hHeld => ?_)
         clear hK K; refine nz 7 ?_
         exact norm_ (by simp only [putAll, Act.put, List.setIfInBounds_toArray, List.set_cons_zero, List.set_cons_succ]) (hCont (gb304, gb305) _ ⟨hHeld, (kz BK290), (kz BK291), (kz BK304), (kz BK305), GW304.out, GE304.out, NB290_304.out, NB304_290.out, NB291_304.out, NB304_291.out, NB305_304.out, NB304_305.out, GW305.out, GE305.out, NB290_305.out, NB305_290.out, NB291_305.out, NB305_291.out, bzs⟩)
       rintro ⟨gb304, gb305⟩ w45 ⟨hS_, h0_, h1_, h2_, h3_, h4_, h5_, h6_, h7_, h8_, h9_, h10_, h11_, h12_, h13_, h14_, h15_, h16_, h17_, h18_⟩; have n0_ : Aside0 (w45.heap[gb290]? = some (.cells #[.int .i64 t296, .int .i64 t297, .int .i64 t298, .int .i64 t299] 85 (0, 0))) := ⟨h0_⟩
       have n1_ : Aside0 (w45.heap[gb291]? = some (.cells #[.int .i64 t300, .int .i64 t301, .int .i64 t302, .int .i64 t303] 85 (0, 0))) := ⟨h1_⟩
       have n2_ : Aside0 (w45.heap[gb304]? = some (.cells #[.int .i64 0, .int .i64 0] 82 (0, 0))) := ⟨h2_⟩
       have n3_ : Aside0 (w45.heap[gb305]? = some (.cells #[.int .i64 0, .int .i64 0] 82 (0, 0))) := ⟨h3_⟩
       have n4_ : Aside0 (w.heap.size ≤ gb304) := ⟨h4_⟩
       have n5_ : Aside0 (w.heap.size ≤ gb304) := ⟨h5_⟩
       have n6_ : Aside0 (gb290 ≠ gb304) := ⟨h6_⟩
       have n7_ : Aside0 (gb304 ≠ gb290) := ⟨h7_⟩
       have n8_ : Aside0 (gb291 ≠ gb304) := ⟨h8_⟩
       have n9_ : Aside0 (gb304 ≠ gb291) := ⟨h9_⟩
       have n10_ : Aside0 (gb305 ≠ gb304) := ⟨h10_⟩
       have n11_ : Aside0 (gb304 ≠ gb305) := ⟨h11_⟩
       have n12_ : Aside0 (w.heap.size ≤ gb305) := ⟨h12_⟩
       have n13_ : Aside0 (w.heap.size ≤ gb305) := ⟨h13_⟩
       have n14_ : Aside0 (gb290 ≠ gb305) := ⟨h14_⟩
       have n15_ : Aside0 (gb305 ≠ gb290) := ⟨h15_⟩
       have n16_ : Aside0 (gb291 ≠ gb305) := ⟨h16_⟩
       have n17_ : Aside0 (gb305 ≠ gb291) := ⟨h17_⟩
       have n18_ : Aside0 (Below w.heap.size w w45) := ⟨h18_⟩
       clear BK290; clear BK291; clear HB; clear h0_ h1_ h2_ h3_ h4_ h5_ h6_ h7_ h8_ h9_ h10_ h11_ h12_ h13_ h14_ h15_ h16_ h17_ h18_; have BK290 := n0_; have BK291 := n1_; have BK304 := n2_; have BK305 := n3_; have GW304 := n4_; have GE304 := n5_; have NB290_304 := n6_; have NB304_290 := n7_; have NB291_304 := n8_; have NB304_291 := n9_; have NB305_304 := n10_; have NB304_305 := n11_; have GW305 := n12_; have GE305 := n13_; have NB290_305 := n14_; have NB305_290 := n15_; have NB291_305 := n16_; have NB305_291 := n17_; have HB := n18_; clear n0_ n1_ n2_ n3_ n4_ n5_ n6_ n7_ n8_ n9_ n10_ n11_ n12_ n13_ n14_ n15_ n16_ n17_ n18_; have hHeld : w45.cell? ⟨gb290, 0, none⟩ = some (.int .i64 t296) ∧ w45.cell? ⟨gb290, 1, none⟩ = some (.int .i64 t297) ∧ w45.cell? ⟨gb290, 2, none⟩ = some (.int .i64 t298) ∧ w45.cell? ⟨gb290, 3, none⟩ = some (.int .i64 t299) := hS_; refine norm_ (a' := ?_) ?_ ?_; rotate_left
       ·simp only [putAll, Act.put, List.setIfInBounds_toArray, List.set_cons_zero, List.set_cons_succ]
        rfl
       refine oz HT_ 6 none (fun K hK => ?_); have hs46 : w45.cell? ⟨gb304, 0, none⟩ = some (.int .i64 0) := bc BK304 0; have hfs46 := blk_frozen BK304.out 0; have hns46_0 := NB290_304.out; have hns46_1 := NB291_304.out; have hns46_3 := NB305_304.out; have hms46_0 := NB304_290.out; have hms46_1 := NB304_291.out; have hms46_3 := NB304_305.out; have hs47 : w45.cell? ⟨gb304, 1, none⟩ = some (.int .i64 0) := bc BK304 1; have hfs47 := blk_frozen BK304.out 1; have hns47_0 := NB290_304.out; have hns47_1 := NB291_304.out; have hns47_3 := NB305_304.out; have hms47_0 := NB304_290.out; have hms47_1 := NB304_291.out; have hms47_3 := NB304_305.out; refine skip_ (w1 := ?_) (by rfl) rfl ?_ ?_; rotate_left
       ·go_simp
        rfl
       refine hK.out _ _ ⟨((cell_far (p := ⟨gb304, _, none⟩) NB290_304.out _).trans (((cell_far (p := ⟨gb304, _, none⟩) NB290_304.out _).trans (hHeld.1)))), ((cell_far (p := ⟨gb304, _, none⟩) NB290_304.out _).trans (((cell_far (p := ⟨gb304, _, none⟩) NB290_304.out _).trans (hHeld.2.1)))), ((cell_far (p := ⟨gb304, _, none⟩) NB290_304.out _).trans (((cell_far (p := ⟨gb304, _, none⟩) NB290_304.out _).trans (hHeld.2.2.1)))), ((cell_far (p := ⟨gb304, _, none⟩) NB290_304.out _).trans (((cell_far (p := ⟨gb304, _, none⟩) NB290_304.out _).trans (hHeld.2.2.2))))⟩ (fun hHeld => ?_); clear hK K; refine oz HT_ 7 none (fun K hK => ?_); have hs48 : w45.cell? ⟨gb305, 0, none⟩ = some (.int .i64 0) := bc BK305 0; have hfs48 := blk_frozen BK305.out 0; have hns48_0 := NB290_305.out; have hns48_1 := NB291_305.out; have hns48_2 := NB304_305.out; have hms48_0 := NB305_290.out; have hms48_1 := NB305_291.out; have hms48_2 := NB305_304.out; have hs49 : w45.cell? ⟨gb305, 1, none⟩ = some (.int .i64 0) := bc BK305 1; have hfs49 := blk_frozen BK305.out 1; have hns49_0 := NB290_305.out; have hns49_1 := NB291_305.out; have hns49_2 := NB304_305.out; have hms49_0 := NB305_290.out; have hms49_1 := NB305_291.out; have hms49_2 := NB305_304.out; refine skip_ (w1 := ?_) (by rfl) rfl ?_ ?_; rotate_left
       ·go_simp
        rfl
       refine hK.out _ _ ⟨((cell_far (p := ⟨gb305, _, none⟩) NB290_305.out _).trans (((cell_far (p := ⟨gb305, _, none⟩) NB290_305.out _).trans (hHeld.1)))), ((cell_far (p := ⟨gb305, _, none⟩) NB290_305.out _).trans (((cell_far (p := ⟨gb305, _, none⟩) NB290_305.out _).trans (hHeld.2.1)))), ((cell_far (p := ⟨gb305, _, none⟩) NB290_305.out _).trans (((cell_far (p := ⟨gb305, _, none⟩) NB290_305.out _).trans (hHeld.2.2.1)))), ((cell_far (p := ⟨gb305, _, none⟩) NB290_305.out _).trans (((cell_far (p := ⟨gb305, _, none⟩) NB290_305.out _).trans (hHeld.2.2.2))))⟩ (fun hHeld => ?_); clear hK K; refine dz HT_ ?_; have hnb50 := NB304_290.out; have hnc50 := NB290_304.out; have hnb51 := NB304_291.out; have hnc51 := NB291_304.out; have hnb52 := NB304_305.out; have hnc52 := NB305_304.out; obtain ⟨hcz53_0, hcz53_1, hfz53_0, hfz53_1⟩ := cells2 BK304; have hnb54 := NB291_290.out; have hnc54 := NB290_291.out; have hnb55 := NB291_305.out; have hnc55 := NB305_291.out; obtain ⟨hcz56_0, hcz56_1, hcz56_2, hcz56_3, hfz56_0, hfz56_1, hfz56_2, hfz56_3⟩ := cells4 BK291
       go_upto_if 48 with (first | ((with_reducible refine gt (some 48) rfl ?_); refine gc Try.func170 (impl_BeforePoint.calls t296 t297 t300 t301 t306 _ A28.out) ?_; rintro e w57 ⟨rfl, hb⟩; refine ⟨_, rfl, ?_⟩; replace BK290 := Aside0.mk (bbz BK290 hb); replace BK291 := Aside0.mk (bbz BK291 hb); replace BK304 := Aside0.mk (blk_below (g := gb304) (o := .cells #[.int .i64 t296, .int .i64 t297] 82 (0, 0)) (by (with_reducible repeat (first | refine blk_drewN ?_ _ | refine blk_drew ?_ | refine blk_alloc ?_ _)); refine blk_far ?_ NB304_305.out _; (with_reducible repeat (first | refine blk_drewN ?_ _ | refine blk_drew ?_ | refine blk_alloc ?_ _)); refine blk_far ?_ NB304_305.out _; (with_reducible repeat (first | refine blk_drewN ?_ _ | refine blk_drew ?_ | refine blk_alloc ?_ _)); refine blk_put (cs := #[.int .i64 t296, .int .i64 0]) ?_ 1 _ rfl; (with_reducible repeat (first | refine blk_drewN ?_ _ | refine blk_drew ?_ | refine blk_alloc ?_ _)); refine blk_put (cs := #[.int .i64 0, .int .i64 0]) ?_ 0 _ rfl; (with_reducible repeat (first | refine blk_drewN ?_ _ | refine blk_drew ?_ | refine blk_alloc ?_ _)); exact BK304.out) hb); replace BK305 := Aside0.mk (blk_below (g := gb305) (o := .cells #[.int .i64 t298, .int .i64 t299] 82 (0, 0)) (by (with_reducible repeat (first | refine blk_drewN ?_ _ | refine blk_drew ?_ | refine blk_alloc ?_ _)); refine blk_put (cs := #[.int .i64 t298, .int .i64 0]) ?_ 1 _ rfl; (with_reducible repeat (first | refine blk_drewN ?_ _ | refine blk_drew ?_ | refine blk_alloc ?_ _)); refine blk_put (cs := #[.int .i64 0, .int .i64 0]) ?_ 0 _ rfl; (with_reducible repeat (first | refine blk_drewN ?_ _ | refine blk_drew ?_ | refine blk_alloc ?_ _)); refine blk_far ?_ NB305_304.out _; (with_reducible repeat (first | refine blk_drewN ?_ _ | refine blk_drew ?_ | refine blk_alloc ?_ _)); refine blk_far ?_ NB305_304.out _; (with_reducible repeat (first | refine blk_drewN ?_ _ | refine blk_drew ?_ | refine blk_alloc ?_ _)); exact BK305.out) hb); replace HB := Aside0.mk (below_step bzs hb); (try clear hb)))
       (try simp only [Act.put, List.setIfInBounds_toArray, List.set_cons_zero, List.set_cons_succ])
       go_cut [] (fun wc => ∃ (kq : Nat) (x305000_28 : Int) (x305001_28 : Int), Aside0 (impl_HowMeet.j2 kq t300 t301 t302 t303 x305000_28 x305001_28 t298 t299 = some r) ∧ Aside0 (kq ≤ kj19) ∧ Aside0 (wc.heap[gb290]? = some (.cells #[.int .i64 t296, .int .i64 t297, .int .i64 t298, .int .i64 t299] 85 (0, 0))) ∧ Aside0 (wc.heap[gb291]? = some (.cells #[.int .i64 t300, .int .i64 t301, .int .i64 t302, .int .i64 t303] 85 (0, 0))) ∧ Aside0 (wc.heap[gb304]? = some (.cells #[.int .i64 x305000_28, .int .i64 x305001_28] 82 (0, 0))) ∧ Aside0 (wc.heap[gb305]? = some (.cells #[.int .i64 t298, .int .i64 t299] 82 (0, 0))) ∧ Aside0 (Below w.heap.size w wc))
       case first =>
        have H := HC29.out; clear HC29
        by_cases c58 : t306 = true
        ·subst c58; replace H := ift H; have H' := Aside0.mk H; clear H; have hnb59 := NB291_290.out; have hnc59 := NB290_291.out; have hnb60 := NB291_304.out; have hnc60 := NB304_291.out; have hnb61 := NB291_305.out; have hnc61 := NB305_291.out; obtain ⟨hcz62_0, hcz62_1, hcz62_2, hcz62_3, hfz62_0, hfz62_1, hfz62_2, hfz62_3⟩ := cells4 BK291; have hnb63 := NB304_290.out; have hnc63 := NB290_304.out; have hnb64 := NB304_305.out; have hnc64 := NB305_304.out; obtain ⟨hcz65_0, hcz65_1, hfz65_0, hfz65_1⟩ := cells2 BK304; go_wp2
         go_meet
         case rel => exact ⟨_, (t300), (t301), H', ⟨by have := HJ2.out; have := HJ19.out; first | omega | exact Nat.le_refl _⟩, ⟨kz BK290⟩, ⟨kz BK291⟩, ⟨by (with_reducible repeat (first | refine blk_drewN ?_ _ | refine blk_drew ?_ | refine blk_alloc ?_ _)); refine blk_put (cs := #[.int .i64 t300, .int .i64 t297]) ?_ 1 _ rfl; (with_reducible repeat (first | refine blk_drewN ?_ _ | refine blk_drew ?_ | refine blk_alloc ?_ _)); refine blk_put (cs := #[.int .i64 t296, .int .i64 t297]) ?_ 0 _ rfl; (with_reducible repeat (first | refine blk_drewN ?_ _ | refine blk_drew ?_ | refine blk_alloc ?_ _)); exact BK304.out⟩, ⟨kz BK305⟩, ⟨bzs⟩⟩
        ·replace c58 := Bool.eq_false_iff.mpr c58; subst c58; replace H := iff_ H; have H' := Aside0.mk H; clear H; go_wp2
         go_meet
         case rel => exact ⟨_, (t296), (t297), H', ⟨by have := HJ2.out; have := HJ19.out; first | omega | exact Nat.le_refl _⟩, ⟨kz BK290⟩, ⟨kz BK291⟩, ⟨kz BK304⟩, ⟨kz BK305⟩, ⟨bzs⟩⟩
       case rest =>
        clear HC29; (try clear c1); (try clear c2); (try clear p2); (try clear c5); (try clear c6); (try clear c7); (try clear c9); (try clear c14); (try clear c15); (try clear c16); (try clear c17); (try clear c24); (try clear c24b0); (try clear c24b1); (try clear c25); (try clear c50); (try clear c51); (try clear c52); (try clear c54); (try clear c55); (try clear c58); (try clear c59); (try clear c60); (try clear c61); (try clear c63); (try clear c64); (try clear hcz10_0); (try clear hcz10_1); (try clear hcz10_2); (try clear hcz10_3); (try clear hcz12_0); (try clear hcz12_1); (try clear hcz12_2); (try clear hcz12_3); (try clear hcz15_0); (try clear hcz15_1); (try clear hcz15_2); (try clear hcz15_3); (try clear hcz53_0); (try clear hcz53_1); (try clear hcz56_0); (try clear hcz56_1); (try clear hcz56_2); (try clear hcz56_3); (try clear hcz62_0); (try clear hcz62_1); (try clear hcz62_2); (try clear hcz62_3); (try clear hcz65_0); (try clear hcz65_1); (try clear hfz10_0); (try clear hfz10_1); (try clear hfz10_2); (try clear hfz10_3); (try clear hfz12_0); (try clear hfz12_1); (try clear hfz12_2); (try clear hfz12_3); (try clear hfz15_0); (try clear hfz15_1); (try clear hfz15_2); (try clear hfz15_3); (try clear hfz53_0); (try clear hfz53_1); (try clear hfz56_0); (try clear hfz56_1); (try clear hfz56_2); (try clear hfz56_3); (try clear hfz62_0); (try clear hfz62_1); (try clear hfz62_2); (try clear hfz62_3); (try clear hfz65_0); (try clear hfz65_1); (try clear p2); obtain ⟨kq, x305000_28, x305001_28, HA, HJ28, BK290, BK291, BK304, BK305, HB⟩ := hcut
        cases kq with
        | zero => exact absurd HA.out (by simp [impl_HowMeet.j2])
        | succ kj28 =>
         have H := HA.out; clear HA; simp only [impl_HowMeet.j2] at H; replace H := Option.bind_eq_some_iff.mp H; obtain ⟨t307, A660, H⟩ := H; have A66 := Aside0.mk A660; clear A660; have HC67 := Aside0.mk H; clear H; have hnb68 := NB291_290.out; have hnc68 := NB290_291.out; have hnb69 := NB291_304.out; have hnc69 := NB304_291.out; have hnb70 := NB291_305.out; have hnc70 := NB305_291.out; obtain ⟨hcz71_0, hcz71_1, hcz71_2, hcz71_3, hfz71_0, hfz71_1, hfz71_2, hfz71_3⟩ := cells4 BK291; have hnb72 := NB305_290.out; have hnc72 := NB290_305.out; have hnb73 := NB305_304.out; have hnc73 := NB304_305.out; obtain ⟨hcz74_0, hcz74_1, hfz74_0, hfz74_1⟩ := cells2 BK305
         go_upto_if 54 with (first | ((with_reducible refine gt (some 54) rfl ?_); refine gc Try.func170 (impl_BeforePoint.calls t302 t303 t298 t299 t307 _ A66.out) ?_; rintro e w75 ⟨rfl, hb⟩; refine ⟨_, rfl, ?_⟩; replace BK290 := Aside0.mk (bbz BK290 hb); replace BK291 := Aside0.mk (bbz BK291 hb); replace BK304 := Aside0.mk (bbz BK304 hb); replace BK305 := Aside0.mk (bbz BK305 hb); replace HB := Aside0.mk (below_step bzs hb); (try clear hb)))
         (try simp only [Act.put, List.setIfInBounds_toArray, List.set_cons_zero, List.set_cons_succ])
         go_cut [] (fun wc => ∃ (kq : Nat) (x306000_66 : Int) (x306001_66 : Int), Aside0 (impl_HowMeet.j3 kq x305000_28 x305001_28 x306000_66 x306001_66 = some r) ∧ Aside0 (kq ≤ kj28) ∧ Aside0 (wc.heap[gb290]? = some (.cells #[.int .i64 t296, .int .i64 t297, .int .i64 t298, .int .i64 t299] 85 (0, 0))) ∧ Aside0 (wc.heap[gb291]? = some (.cells #[.int .i64 t300, .int .i64 t301, .int .i64 t302, .int .i64 t303] 85 (0, 0))) ∧ Aside0 (wc.heap[gb304]? = some (.cells #[.int .i64 x305000_28, .int .i64 x305001_28] 82 (0, 0))) ∧ Aside0 (wc.heap[gb305]? = some (.cells #[.int .i64 x306000_66, .int .i64 x306001_66] 82 (0, 0))) ∧ Aside0 (Below w.heap.size w wc))
         case first =>
          have H := HC67.out; clear HC67
          by_cases c76 : t307 = true
          ·subst c76; replace H := ift H; have H' := Aside0.mk H; clear H; have hnb77 := NB291_290.out; have hnc77 := NB290_291.out; have hnb78 := NB291_304.out; have hnc78 := NB304_291.out; have hnb79 := NB291_305.out; have hnc79 := NB305_291.out; obtain ⟨hcz80_0, hcz80_1, hcz80_2, hcz80_3, hfz80_0, hfz80_1, hfz80_2, hfz80_3⟩ := cells4 BK291; have hnb81 := NB305_290.out; have hnc81 := NB290_305.out; have hnb82 := NB305_304.out; have hnc82 := NB304_305.out; obtain ⟨hcz83_0, hcz83_1, hfz83_0, hfz83_1⟩ := cells2 BK305; go_wp2
           go_meet
           case rel => exact ⟨_, (t302), (t303), H', ⟨by have := HJ2.out; have := HJ19.out; have := HJ28.out; first | omega | exact Nat.le_refl _⟩, ⟨kz BK290⟩, ⟨kz BK291⟩, ⟨kz BK304⟩, ⟨by (with_reducible repeat (first | refine blk_drewN ?_ _ | refine blk_drew ?_ | refine blk_alloc ?_ _)); refine blk_put (cs := #[.int .i64 t302, .int .i64 t299]) ?_ 1 _ rfl; (with_reducible repeat (first | refine blk_drewN ?_ _ | refine blk_drew ?_ | refine blk_alloc ?_ _)); refine blk_put (cs := #[.int .i64 t298, .int .i64 t299]) ?_ 0 _ rfl; (with_reducible repeat (first | refine blk_drewN ?_ _ | refine blk_drew ?_ | refine blk_alloc ?_ _)); exact BK305.out⟩, ⟨bzs⟩⟩
          ·replace c76 := Bool.eq_false_iff.mpr c76; subst c76; replace H := iff_ H; have H' := Aside0.mk H; clear H; go_wp2
           go_meet
           case rel => exact ⟨_, (t298), (t299), H', ⟨by have := HJ2.out; have := HJ19.out; have := HJ28.out; first | omega | exact Nat.le_refl _⟩, ⟨kz BK290⟩, ⟨kz BK291⟩, ⟨kz BK304⟩, ⟨kz BK305⟩, ⟨bzs⟩⟩
         case rest =>
          clear HC67; (try clear c1); (try clear c2); (try clear p2); (try clear c5); (try clear c6); (try clear c7); (try clear c8); (try clear c9); (try clear c14); (try clear c15); (try clear c16); (try clear c17); (try clear c24); (try clear c24b0); (try clear c24b1); (try clear c25); (try clear c50); (try clear c51); (try clear c52); (try clear c54); (try clear c55); (try clear c58); (try clear c59); (try clear c60); (try clear c61); (try clear c63); (try clear c64); (try clear c68); (try clear c69); (try clear c70); (try clear c72); (try clear c73); (try clear c76); (try clear c77); (try clear c78); (try clear c79); (try clear c81); (try clear c82); (try clear hcz10_0); (try clear hcz10_1); (try clear hcz10_2); (try clear hcz10_3); (try clear hcz12_0); (try clear hcz12_1); (try clear hcz12_2); (try clear hcz12_3); (try clear hcz15_0); (try clear hcz15_1); (try clear hcz15_2); (try clear hcz15_3); (try clear hcz53_0); (try clear hcz53_1); (try clear hcz56_0); (try clear hcz56_1); (try clear hcz56_2); (try clear hcz56_3); (try clear hcz62_0); (try clear hcz62_1); (try clear hcz62_2); (try clear hcz62_3); (try clear hcz65_0); (try clear hcz65_1); (try clear hcz71_0); (try clear hcz71_1); (try clear hcz71_2); (try clear hcz71_3); (try clear hcz74_0); (try clear hcz74_1); (try clear hcz80_0); (try clear hcz80_1); (try clear hcz80_2); (try clear hcz80_3); (try clear hcz83_0); (try clear hcz83_1); (try clear hfz10_0); (try clear hfz10_1); (try clear hfz10_2); (try clear hfz10_3)
          (try clear hfz12_0); (try clear hfz12_1); (try clear hfz12_2); (try clear hfz12_3); (try clear hfz15_0); (try clear hfz15_1); (try clear hfz15_2); (try clear hfz15_3); (try clear hfz53_0); (try clear hfz53_1); (try clear hfz56_0); (try clear hfz56_1); (try clear hfz56_2); (try clear hfz56_3); (try clear hfz62_0); (try clear hfz62_1); (try clear hfz62_2); (try clear hfz62_3); (try clear hfz65_0); (try clear hfz65_1); (try clear hfz71_0); (try clear hfz71_1); (try clear hfz71_2); (try clear hfz71_3); (try clear hfz74_0); (try clear hfz74_1); (try clear hfz80_0); (try clear hfz80_1); (try clear hfz80_2); (try clear hfz80_3); (try clear hfz83_0); (try clear hfz83_1); (try clear p2); obtain ⟨kq, x306000_66, x306001_66, HA, HJ66, BK290, BK291, BK304, BK305, HB⟩ := hcut
          cases kq with
          | zero => exact absurd HA.out (by simp [impl_HowMeet.j3])
          | succ kj66 =>
           have H := HA.out; clear HA; simp only [impl_HowMeet.j3] at H; replace H := Option.bind_eq_some_iff.mp H; obtain ⟨t308, A840, H⟩ := H; have A84 := Aside0.mk A840; clear A840
           by_cases c85 : t308 = true
           ·subst c85; replace H := ift H; obtain rfl := Option.some.inj H; have hnb86 := NB305_290.out; have hnc86 := NB290_305.out; have hnb87 := NB305_291.out; have hnc87 := NB291_305.out; have hnb88 := NB305_304.out; have hnc88 := NB304_305.out; obtain ⟨hcz89_0, hcz89_1, hfz89_0, hfz89_1⟩ := cells2 BK305; have hnb90 := NB304_290.out; have hnc90 := NB290_304.out; have hnb91 := NB304_291.out; have hnc91 := NB291_304.out; obtain ⟨hcz92_0, hcz92_1, hfz92_0, hfz92_1⟩ := cells2 BK304; go_wp2_with (first | ((with_reducible refine gt (some 60) rfl ?_); refine gc Try.func170 (impl_BeforePoint.calls x306000_66 x306001_66 x305000_28 x305001_28 true _ A84.out) ?_; rintro e w93 ⟨rfl, hb⟩; refine ⟨_, rfl, ?_⟩; replace BK290 := Aside0.mk (bbz BK290 hb); replace BK291 := Aside0.mk (bbz BK291 hb); replace BK304 := Aside0.mk (bbz BK304 hb); replace BK305 := Aside0.mk (bbz BK305 hb); replace HB := Aside0.mk (below_step bzs hb); (try clear hb))); go_ret
            exact ⟨ez, bzs⟩
           ·replace c85 := Bool.eq_false_iff.mpr c85; subst c85; replace H := iff_ H
            by_cases c94 : (x305000_28 == x306000_66 && (x305001_28 == x306001_66)) = true
            ·rw [if_pos c94] at H; have c94b0 : (x305000_28 == x306000_66 && (x305001_28 == x306001_66)) = true := c94; (try (have c94b1 : decide (x305000_28 = x306000_66 && (x305001_28 == x306001_66)) = true := by simpa using c94)); (try (have c94b2 : (x305000_28 == x306000_66 && (x305001_28 == x306001_66)) = true := by simpa using c94)); clear c94; obtain rfl := Option.some.inj H; have hnb95 := NB305_290.out; have hnc95 := NB290_305.out; have hnb96 := NB305_291.out; have hnc96 := NB291_305.out; have hnb97 := NB305_304.out; have hnc97 := NB304_305.out; obtain ⟨hcz98_0, hcz98_1, hfz98_0, hfz98_1⟩ := cells2 BK305; have hnb99 := NB304_290.out; have hnc99 := NB290_304.out; have hnb100 := NB304_291.out; have hnc100 := NB291_304.out; obtain ⟨hcz101_0, hcz101_1, hfz101_0, hfz101_1⟩ := cells2 BK304; go_wp2_with (first | ((with_reducible refine gt (some 60) rfl ?_); refine gc Try.func170 (impl_BeforePoint.calls x306000_66 x306001_66 x305000_28 x305001_28 false _ A84.out) ?_; rintro e w102 ⟨rfl, hb⟩; refine ⟨_, rfl, ?_⟩; replace BK290 := Aside0.mk (bbz BK290 hb); replace BK291 := Aside0.mk (bbz BK291 hb); replace BK304 := Aside0.mk (bbz BK304 hb); replace BK305 := Aside0.mk (bbz BK305 hb); replace HB := Aside0.mk (below_step bzs hb); (try clear hb); obtain ⟨hcz103_0, hcz103_1, hfz103_0, hfz103_1⟩ := cells2 BK304; obtain ⟨hcz104_0, hcz104_1, hfz104_0, hfz104_1⟩ := cells2 BK305)); go_ret
             exact ⟨ez, bzs⟩
            ·rw [if_neg c94] at H; have c94b0 : (x305000_28 == x306000_66 && (x305001_28 == x306001_66)) = false := by simpa using c94
             (try (have c94b1 : decide (x305000_28 = x306000_66 && (x305001_28 == x306001_66)) = false := by simpa using c94)); (try (have c94b2 : (x305000_28 == x306000_66 && (x305001_28 == x306001_66)) = false := by simpa using c94)); (try (have c94b3 : ¬ (x305000_28 = x306000_66 && (x305001_28 == x306001_66)) := by simpa using c94)); clear c94; obtain rfl := Option.some.inj H; have hnb105 := NB305_290.out; have hnc105 := NB290_305.out; have hnb106 := NB305_291.out; have hnc106 := NB291_305.out; have hnb107 := NB305_304.out; have hnc107 := NB304_305.out; obtain ⟨hcz108_0, hcz108_1, hfz108_0, hfz108_1⟩ := cells2 BK305; have hnb109 := NB304_290.out; have hnc109 := NB290_304.out; have hnb110 := NB304_291.out; have hnc110 := NB291_304.out; obtain ⟨hcz111_0, hcz111_1, hfz111_0, hfz111_1⟩ := cells2 BK304; go_wp2_with (first | ((with_reducible refine gt (some 60) rfl ?_); refine gc Try.func170 (impl_BeforePoint.calls x306000_66 x306001_66 x305000_28 x305001_28 false _ A84.out) ?_; rintro e w112 ⟨rfl, hb⟩; refine ⟨_, rfl, ?_⟩; replace BK290 := Aside0.mk (bbz BK290 hb); replace BK291 := Aside0.mk (bbz BK291 hb); replace BK304 := Aside0.mk (bbz BK304 hb); replace BK305 := Aside0.mk (bbz BK305 hb); replace HB := Aside0.mk (below_step bzs hb); (try clear hb); obtain ⟨hcz113_0, hcz113_1, hfz113_0, hfz113_1⟩ := cells2 BK304; obtain ⟨hcz114_0, hcz114_1, hfz114_0, hfz114_1⟩ := cells2 BK305)); go_ret
             exact ⟨ez, bzs⟩
      ·replace c25 := Bool.eq_false_iff.mpr c25; subst c25; replace H := iff_ H; have HC115 := Aside0.mk H; clear H
       go_upto_region 16 with (fail)
       go_cut [86] (fun v86 wc => ∃ (kq : Nat) (x86_114 : Bool), v86 = .bool x86_114 ∧ Aside0 (impl_HowMeet.j4 kq x86_114 a0_0 a0_1 a0_2 a0_3 a1_0 a1_1 a1_2 a1_3 = some r) ∧ Aside0 (kq ≤ kj19) ∧ Aside0 (wc.heap[gb290]? = some (.cells #[.int .i64 a0_0, .int .i64 a0_1, .int .i64 a0_2, .int .i64 a0_3] 85 (0, 0))) ∧ Aside0 (wc.heap[gb291]? = some (.cells #[.int .i64 a1_0, .int .i64 a1_1, .int .i64 a1_2, .int .i64 a1_3] 85 (0, 0))) ∧ Aside0 (Below w.heap.size w wc))
       case first =>
        have H := HC115.out; clear HC115
        by_cases c116 : (wrap64 (t294 * t295)) < 0
        ·rw [if_pos c116] at H; have c116b0 := decide_eq_true c116; clear c116
         (first | rw [c116b0] | (simp only [i64_w, i32_w]; rw [c116b0]) | skip)
         replace H := Option.bind_eq_some_iff.mp H; obtain ⟨t309, A1170, H⟩ := H; have A117 := Aside0.mk A1170; clear A1170; replace H := Option.bind_eq_some_iff.mp H; obtain ⟨t310, A1180, H⟩ := H; have A118 := Aside0.mk A1180; clear A1180; have H' := Aside0.mk H; clear H; (try go_wp2); replace BK290 := Aside0.mk (blk_drew BK290.out); replace BK291 := Aside0.mk (blk_drew BK291.out); replace HB := Aside0.mk (below_drew1 HB.out); refine start_ (n := 22) (S := fun w' => w'.cell? ⟨gb291, 0, none⟩ = some (.int .i64 a1_0) ∧ w'.cell? ⟨gb291, 1, none⟩ = some (.int .i64 a1_1) ∧ w'.cell? ⟨gb291, 2, none⟩ = some (.int .i64 a1_2) ∧ w'.cell? ⟨gb291, 3, none⟩ = some (.int .i64 a1_3) ∧ w'.cell? ⟨gb290, 0, none⟩ = some (.int .i64 a0_0) ∧ w'.cell? ⟨gb290, 1, none⟩ = some (.int .i64 a0_1) ∧ w'.cell? ⟨gb290, 2, none⟩ = some (.int .i64 a0_2) ∧ w'.cell? ⟨gb290, 3, none⟩ = some (.int .i64 a0_3)) (ds := []) #[F,F,F,F,F,F,F,F,F,F,F,F,F,F,F,F,F,F,F,F,F,F] (by kernel_rfl) rfl rfl ⟨bc BK291 0, bc BK291 1, bc BK291 2, bc BK291 3, bc BK290 0, bc BK290 1, bc BK290 2, bc BK290 3⟩ (fun hHeld => ?_); refine with_tabW impl_HowMeet.tab16 impl_HowMeet.bits16 (fun HT_ HW_ => ?_); generalize wc.drew = w119 at BK290 BK291 HB hHeld ⊢; refine pz HT_ 0 65 ?_; refine pz HT_ 1 66 ?_; refine pz HT_ 2 67 ?_; refine pz HT_ 3 68 ?_; refine pz HT_ 4 69 ?_; refine pz HT_ 5 70 ?_; refine pz HT_ 7 72 ?_; refine pz HT_ 9 74 ?_; refine pz HT_ 12 77 ?_; refine pz HT_ 14 79 ?_; refine pz HT_ 16 81 ?_; refine tz8 HT_ HW_ hHeld 6 71 ?_; refine tz8 HT_ HW_ hHeld 8 73 ?_; refine tz8 HT_ HW_ hHeld 10 75 ?_; refine tz8 HT_ HW_ hHeld 13 78 ?_; refine tz8 HT_ HW_ hHeld 15 80 ?_; refine tz8 HT_ HW_ hHeld 17 82 ?_
         refine oz HT_ 11 (some 76) (fun K hK => ?_); refine gz Try.func167 #[.agg #[.int .i64 a1_0, .int .i64 a1_1], .agg #[.int .i64 a1_2, .int .i64 a1_3], .agg #[.int .i64 a0_0, .int .i64 a0_1]] ?_
         with_reducible refine (impl_SideOf.calls a1_0 a1_1 a1_2 a1_3 a0_0 a0_1 t309 _ A117.out).mono ?_
         rintro e w120 ⟨rfl, hb⟩; refine ⟨_, rfl, ?_⟩; replace BK290 := Aside0.mk (bbz BK290 hb); replace BK291 := Aside0.mk (bbz BK291 hb); replace HB := Aside0.mk (below_step bzs hb); (try clear hb); (try clear hb2); (try clear hk); (try clear hi); refine hK.out _ _ ⟨bc BK291 0, bc BK291 1, bc BK291 2, bc BK291 3, bc BK290 0, bc BK290 1, bc BK290 2, bc BK290 3⟩ (fun hHeld => ?_); clear hK K; refine nz 76 ?_; refine oz HT_ 18 (some 83) (fun K hK => ?_); refine gz Try.func167 #[.agg #[.int .i64 a1_0, .int .i64 a1_1], .agg #[.int .i64 a1_2, .int .i64 a1_3], .agg #[.int .i64 a0_2, .int .i64 a0_3]] ?_
         with_reducible refine (impl_SideOf.calls a1_0 a1_1 a1_2 a1_3 a0_2 a0_3 t310 _ A118.out).mono ?_
         rintro e w121 ⟨rfl, hb⟩; refine ⟨_, rfl, ?_⟩; replace BK290 := Aside0.mk (bbz BK290 hb); replace BK291 := Aside0.mk (bbz BK291 hb); replace HB := Aside0.mk (below_step bzs hb); (try clear hb); (try clear hb2); (try clear hk); (try clear hi); refine hK.out _ _ ⟨bc BK291 0, bc BK291 1, bc BK291 2, bc BK291 3, bc BK290 0, bc BK290 1, bc BK290 2, bc BK290 3⟩ (fun hHeld => ?_); clear hK K; refine nz 83 ?_; refine pz HT_ 19 84 ?_; refine pz HT_ 20 85 ?_; refine pz HT_ 21 86 ?_; refine dz HT_ ?_; (try go_wp2)
         go_meet
         case rel => exact ⟨_, (decide ((wrap64 (t309 * t310)) < 0)), rz, H', ⟨by have := HJ2.out; have := HJ19.out; first | omega | exact Nat.le_refl _⟩, ⟨kz BK290⟩, ⟨kz BK291⟩, ⟨bzs⟩⟩
        ·rw [if_neg c116] at H; have c116b0 := decide_eq_false c116; clear c116
         (first | rw [c116b0] | (simp only [i64_w, i32_w]; rw [c116b0]) | skip)
         have H' := Aside0.mk H; clear H; (try go_wp2); replace BK290 := Aside0.mk (blk_drew BK290.out); replace BK291 := Aside0.mk (blk_drew BK291.out); replace HB := Aside0.mk (below_drew1 HB.out); refine start_ (n := 22) (S := fun w' => True) (ds := []) #[F,F,F,F,F,F,F,F,F,F,F,F,F,F,F,F,F,F,F,F,F,F] (by kernel_rfl) rfl rfl trivial (fun hHeld => ?_); refine with_tabW impl_HowMeet.tab16 impl_HowMeet.bits16 (fun HT_ HW_ => ?_); generalize wc.drew = w122 at BK290 BK291 HB hHeld ⊢; refine pz HT_ 0 65 ?_; refine pz HT_ 1 66 ?_; refine pz HT_ 2 67 ?_; refine pz HT_ 3 68 ?_; refine pz HT_ 4 69 ?_; refine uz HT_ 5 70 ?_; refine uz HT_ 6 71 ?_; refine uz HT_ 7 72 ?_; refine uz HT_ 8 73 ?_; refine uz HT_ 9 74 ?_; refine uz HT_ 10 75 ?_; refine uz HT_ 11 76 ?_; refine uz HT_ 12 77 ?_; refine uz HT_ 13 78 ?_; refine uz HT_ 14 79 ?_; refine uz HT_ 15 80 ?_; refine uz HT_ 16 81 ?_; refine uz HT_ 17 82 ?_; refine uz HT_ 18 83 ?_; refine uz HT_ 19 84 ?_; refine uz HT_ 20 85 ?_; refine pz HT_ 21 86 ?_; refine dz HT_ ?_; (try go_wp2)
         go_meet
         case rel => exact ⟨_, (false), rz, H', ⟨by have := HJ2.out; have := HJ19.out; first | omega | exact Nat.le_refl _⟩, ⟨kz BK290⟩, ⟨kz BK291⟩, ⟨bzs⟩⟩
       case rest =>
        clear HC115; (try clear c1); (try clear c2); (try clear p2); (try clear c5); (try clear c6); (try clear p6); (try clear c7); (try clear c8); (try clear c9); (try clear c10); (try clear c11); (try clear c15); (try clear c16); (try clear c17); (try clear c24); (try clear c24b0); (try clear c24b1); (try clear c25); (try clear c50); (try clear c51); (try clear c52); (try clear c54); (try clear c55); (try clear c58); (try clear c59); (try clear c60); (try clear c61); (try clear c63); (try clear c64); (try clear p64); (try clear c68); (try clear c69); (try clear c70); (try clear c72); (try clear c73); (try clear c76); (try clear c77); (try clear c78); (try clear c79); (try clear c81); (try clear c82); (try clear c85); (try clear c86); (try clear c87); (try clear c88); (try clear c90); (try clear c91); (try clear c94); (try clear c94b0); (try clear c94b1); (try clear c94b2); (try clear c95); (try clear c96); (try clear c97); (try clear c99); (try clear c100); (try clear c105); (try clear c106); (try clear c107); (try clear c109); (try clear c110); (try clear c116); (try clear c116b0); (try clear hcz101_0); (try clear hcz101_1); (try clear hcz103_0); (try clear hcz103_1); (try clear hcz104_0); (try clear hcz104_1); (try clear hcz108_0); (try clear hcz108_1); (try clear hcz10_0); (try clear hcz10_1); (try clear hcz10_2); (try clear hcz10_3); (try clear hcz111_0); (try clear hcz111_1); (try clear hcz113_0); (try clear hcz113_1); (try clear hcz114_0); (try clear hcz114_1); (try clear hcz12_0)
        (try clear hcz12_1); (try clear hcz12_2); (try clear hcz12_3); (try clear hcz15_0); (try clear hcz15_1); (try clear hcz15_2); (try clear hcz15_3); (try clear hcz53_0); (try clear hcz53_1); (try clear hcz56_0); (try clear hcz56_1); (try clear hcz56_2); (try clear hcz56_3); (try clear hcz62_0); (try clear hcz62_1); (try clear hcz62_2); (try clear hcz62_3); (try clear hcz65_0); (try clear hcz65_1); (try clear hcz71_0); (try clear hcz71_1); (try clear hcz71_2); (try clear hcz71_3); (try clear hcz74_0); (try clear hcz74_1); (try clear hcz80_0); (try clear hcz80_1); (try clear hcz80_2); (try clear hcz80_3); (try clear hcz83_0); (try clear hcz83_1); (try clear hcz89_0); (try clear hcz89_1); (try clear hcz92_0); (try clear hcz92_1); (try clear hcz98_0); (try clear hcz98_1); (try clear hfz101_0); (try clear hfz101_1); (try clear hfz103_0); (try clear hfz103_1); (try clear hfz104_0); (try clear hfz104_1); (try clear hfz108_0); (try clear hfz108_1); (try clear hfz10_0); (try clear hfz10_1); (try clear hfz10_2); (try clear hfz10_3); (try clear hfz111_0); (try clear hfz111_1); (try clear hfz113_0); (try clear hfz113_1); (try clear hfz114_0); (try clear hfz114_1); (try clear hfz12_0); (try clear hfz12_1); (try clear hfz12_2); (try clear hfz12_3); (try clear hfz15_0); (try clear hfz15_1); (try clear hfz15_2); (try clear hfz15_3); (try clear hfz53_0); (try clear hfz53_1); (try clear hfz56_0); (try clear hfz56_1); (try clear hfz56_2); (try clear hfz56_3); (try clear hfz62_0); (try clear hfz62_1)
        (try clear hfz62_2); (try clear hfz62_3); (try clear hfz65_0); (try clear hfz65_1); (try clear hfz71_0); (try clear hfz71_1); (try clear hfz71_2); (try clear hfz71_3); (try clear hfz74_0); (try clear hfz74_1); (try clear hfz80_0); (try clear hfz80_1); (try clear hfz80_2); (try clear hfz80_3); (try clear hfz83_0); (try clear hfz83_1); (try clear hfz89_0); (try clear hfz89_1); (try clear hfz92_0); (try clear hfz92_1); (try clear hfz98_0); (try clear hfz98_1); (try clear p2); obtain ⟨kq, x86_114, rfl, HA, HJ114, BK290, BK291, HB⟩ := hcut
        cases kq with
        | zero => exact absurd HA.out (by simp [impl_HowMeet.j4])
        | succ kj114 =>
         have H := HA.out; clear HA; simp only [impl_HowMeet.j4] at H
         by_cases c123 : x86_114 = true
         ·subst c123; replace H := ift H; obtain rfl := Option.some.inj H; go_wp2; go_ret
          exact ⟨ez, bzs⟩
         ·replace c123 := Bool.eq_false_iff.mpr c123; subst c123; replace H := iff_ H; replace H := Option.bind_eq_some_iff.mp H; obtain ⟨t311, A1240, H⟩ := H; have A124 := Aside0.mk A1240; clear A1240
          by_cases c125 : t311 = true
          ·subst c125; replace H := ift H; obtain rfl := Option.some.inj H; have hnb126 := NB290_291.out; have hnc126 := NB291_290.out; obtain ⟨hcz127_0, hcz127_1, hcz127_2, hcz127_3, hfz127_0, hfz127_1, hfz127_2, hfz127_3⟩ := cells4 BK290; obtain ⟨hcz128_0, hcz128_1, hcz128_2, hcz128_3, hfz128_0, hfz128_1, hfz128_2, hfz128_3⟩ := cells4 BK291; go_wp2_with (first | ((with_reducible refine gt (some 90) rfl ?_); refine gc Try.func171 (impl_IsOn.calls a0_0 a0_1 a0_2 a0_3 a1_0 a1_1 true _ A124.out) ?_; rintro e w129 ⟨rfl, hb⟩; refine ⟨_, rfl, ?_⟩; replace BK290 := Aside0.mk (bbz BK290 hb); replace BK291 := Aside0.mk (bbz BK291 hb); replace HB := Aside0.mk (below_step bzs hb); (try clear hb))); go_ret
           exact ⟨ez, bzs⟩
          ·replace c125 := Bool.eq_false_iff.mpr c125; subst c125; replace H := iff_ H; replace H := Option.bind_eq_some_iff.mp H; obtain ⟨t312, A1300, H⟩ := H; have A130 := Aside0.mk A1300; clear A1300
           by_cases c131 : t312 = true
           ·subst c131; replace H := ift H; obtain rfl := Option.some.inj H; have hnb132 := NB290_291.out; have hnc132 := NB291_290.out; obtain ⟨hcz133_0, hcz133_1, hcz133_2, hcz133_3, hfz133_0, hfz133_1, hfz133_2, hfz133_3⟩ := cells4 BK290; obtain ⟨hcz134_0, hcz134_1, hcz134_2, hcz134_3, hfz134_0, hfz134_1, hfz134_2, hfz134_3⟩ := cells4 BK291; go_wp2_with (first | ((with_reducible refine gt (some 90) rfl ?_); refine gc Try.func171 (impl_IsOn.calls a0_0 a0_1 a0_2 a0_3 a1_0 a1_1 false _ A124.out) ?_; rintro e w135 ⟨rfl, hb⟩; refine ⟨_, rfl, ?_⟩; replace BK290 := Aside0.mk (bbz BK290 hb); replace BK291 := Aside0.mk (bbz BK291 hb); replace HB := Aside0.mk (below_step bzs hb); (try clear hb); obtain ⟨hcz136_0, hcz136_1, hcz136_2, hcz136_3, hfz136_0, hfz136_1, hfz136_2, hfz136_3⟩ := cells4 BK290; obtain ⟨hcz137_0, hcz137_1, hcz137_2, hcz137_3, hfz137_0, hfz137_1, hfz137_2, hfz137_3⟩ := cells4 BK291) | (go_at_call 171; (with_reducible refine (impl_IsOn.calls a0_0 a0_1 a0_2 a0_3 a1_2 a1_3 true _ A130.out).mono ?_); rintro e w138 ⟨rfl, hb⟩; replace BK290 := Aside0.mk (bbz BK290 hb); replace BK291 := Aside0.mk (bbz BK291 hb); replace HB := Aside0.mk (below_step bzs hb); (try clear hb))); go_ret
            exact ⟨ez, bzs⟩
           ·replace c131 := Bool.eq_false_iff.mpr c131; subst c131; replace H := iff_ H; replace H := Option.bind_eq_some_iff.mp H; obtain ⟨t313, A1390, H⟩ := H; have A139 := Aside0.mk A1390; clear A1390
            by_cases c140 : t313 = true
            ·subst c140; replace H := ift H; obtain rfl := Option.some.inj H; have hnb141 := NB290_291.out; have hnc141 := NB291_290.out; obtain ⟨hcz142_0, hcz142_1, hcz142_2, hcz142_3, hfz142_0, hfz142_1, hfz142_2, hfz142_3⟩ := cells4 BK290; obtain ⟨hcz143_0, hcz143_1, hcz143_2, hcz143_3, hfz143_0, hfz143_1, hfz143_2, hfz143_3⟩ := cells4 BK291; go_wp2_with (first | ((with_reducible refine gt (some 90) rfl ?_); refine gc Try.func171 (impl_IsOn.calls a0_0 a0_1 a0_2 a0_3 a1_0 a1_1 false _ A124.out) ?_; rintro e w144 ⟨rfl, hb⟩; refine ⟨_, rfl, ?_⟩; replace BK290 := Aside0.mk (bbz BK290 hb); replace BK291 := Aside0.mk (bbz BK291 hb); replace HB := Aside0.mk (below_step bzs hb); (try clear hb); obtain ⟨hcz145_0, hcz145_1, hcz145_2, hcz145_3, hfz145_0, hfz145_1, hfz145_2, hfz145_3⟩ := cells4 BK290; obtain ⟨hcz146_0, hcz146_1, hcz146_2, hcz146_3, hfz146_0, hfz146_1, hfz146_2, hfz146_3⟩ := cells4 BK291) | (go_at_call 171; (with_reducible refine (impl_IsOn.calls a0_0 a0_1 a0_2 a0_3 a1_2 a1_3 false _ A130.out).mono ?_); rintro e w147 ⟨rfl, hb⟩; replace BK290 := Aside0.mk (bbz BK290 hb); replace BK291 := Aside0.mk (bbz BK291 hb); replace HB := Aside0.mk (below_step bzs hb); (try clear hb); obtain ⟨hcz148_0, hcz148_1, hcz148_2, hcz148_3, hfz148_0, hfz148_1, hfz148_2, hfz148_3⟩ := cells4 BK291; obtain ⟨hcz149_0, hcz149_1, hcz149_2, hcz149_3, hfz149_0, hfz149_1, hfz149_2, hfz149_3⟩ := cells4 BK290) | (go_at_call 171; (with_reducible refine (impl_IsOn.calls a1_0 a1_1 a1_2 a1_3 a0_0 a0_1 true _ A139.out).mono ?_); rintro e w150 ⟨rfl, hb⟩; replace BK290 := Aside0.mk (bbz BK290 hb); replace BK291 := Aside0.mk (bbz BK291 hb); replace HB := Aside0.mk (below_step bzs hb); (try clear hb)))
             go_ret
             exact ⟨ez, bzs⟩
            ·replace c140 := Bool.eq_false_iff.mpr c140; subst c140; replace H := iff_ H; replace H := Option.bind_eq_some_iff.mp H; obtain ⟨t314, A1510, H⟩ := H; have A151 := Aside0.mk A1510; clear A1510
             by_cases c152 : t314 = true
             ·subst c152; replace H := ift H; obtain rfl := Option.some.inj H; have hnb153 := NB290_291.out; have hnc153 := NB291_290.out; obtain ⟨hcz154_0, hcz154_1, hcz154_2, hcz154_3, hfz154_0, hfz154_1, hfz154_2, hfz154_3⟩ := cells4 BK290; obtain ⟨hcz155_0, hcz155_1, hcz155_2, hcz155_3, hfz155_0, hfz155_1, hfz155_2, hfz155_3⟩ := cells4 BK291; go_wp2_with (first | ((with_reducible refine gt (some 90) rfl ?_); refine gc Try.func171 (impl_IsOn.calls a0_0 a0_1 a0_2 a0_3 a1_0 a1_1 false _ A124.out) ?_; rintro e w156 ⟨rfl, hb⟩; refine ⟨_, rfl, ?_⟩; replace BK290 := Aside0.mk (bbz BK290 hb); replace BK291 := Aside0.mk (bbz BK291 hb); replace HB := Aside0.mk (below_step bzs hb); (try clear hb); obtain ⟨hcz157_0, hcz157_1, hcz157_2, hcz157_3, hfz157_0, hfz157_1, hfz157_2, hfz157_3⟩ := cells4 BK290; obtain ⟨hcz158_0, hcz158_1, hcz158_2, hcz158_3, hfz158_0, hfz158_1, hfz158_2, hfz158_3⟩ := cells4 BK291) | (go_at_call 171; (with_reducible refine (impl_IsOn.calls a0_0 a0_1 a0_2 a0_3 a1_2 a1_3 false _ A130.out).mono ?_); rintro e w159 ⟨rfl, hb⟩; replace BK290 := Aside0.mk (bbz BK290 hb); replace BK291 := Aside0.mk (bbz BK291 hb); replace HB := Aside0.mk (below_step bzs hb); (try clear hb); obtain ⟨hcz160_0, hcz160_1, hcz160_2, hcz160_3, hfz160_0, hfz160_1, hfz160_2, hfz160_3⟩ := cells4 BK291; obtain ⟨hcz161_0, hcz161_1, hcz161_2, hcz161_3, hfz161_0, hfz161_1, hfz161_2, hfz161_3⟩ := cells4 BK290) | (go_at_call 171; (with_reducible refine (impl_IsOn.calls a1_0 a1_1 a1_2 a1_3 a0_0 a0_1 false _ A139.out).mono ?_); rintro e w162 ⟨rfl, hb⟩; replace BK290 := Aside0.mk (bbz BK290 hb); replace BK291 := Aside0.mk (bbz BK291 hb); replace HB := Aside0.mk (below_step bzs hb); (try clear hb); obtain ⟨hcz163_0, hcz163_1, hcz163_2, hcz163_3, hfz163_0, hfz163_1, hfz163_2, hfz163_3⟩ := cells4 BK291; obtain ⟨hcz164_0, hcz164_1, hcz164_2, hcz164_3, hfz164_0, hfz164_1, hfz164_2, hfz164_3⟩ := cells4 BK290) | (go_at_call 171; (with_reducible refine (impl_IsOn.calls a1_0 a1_1 a1_2 a1_3 a0_2 a0_3 true _ A151.out).mono ?_); rintro e w165 ⟨rfl, hb⟩; replace BK290 := Aside0.mk (bbz BK290 hb); replace BK291 := Aside0.mk (bbz BK291 hb); replace HB := Aside0.mk (below_step bzs hb); (try clear hb)))
              go_ret
              exact ⟨ez, bzs⟩
             ·replace c152 := Bool.eq_false_iff.mpr c152; subst c152; replace H := iff_ H; obtain rfl := Option.some.inj H; have hnb166 := NB290_291.out; have hnc166 := NB291_290.out; obtain ⟨hcz167_0, hcz167_1, hcz167_2, hcz167_3, hfz167_0, hfz167_1, hfz167_2, hfz167_3⟩ := cells4 BK290; obtain ⟨hcz168_0, hcz168_1, hcz168_2, hcz168_3, hfz168_0, hfz168_1, hfz168_2, hfz168_3⟩ := cells4 BK291; go_wp2_with (first | ((with_reducible refine gt (some 90) rfl ?_); refine gc Try.func171 (impl_IsOn.calls a0_0 a0_1 a0_2 a0_3 a1_0 a1_1 false _ A124.out) ?_; rintro e w169 ⟨rfl, hb⟩; refine ⟨_, rfl, ?_⟩; replace BK290 := Aside0.mk (bbz BK290 hb); replace BK291 := Aside0.mk (bbz BK291 hb); replace HB := Aside0.mk (below_step bzs hb); (try clear hb); obtain ⟨hcz170_0, hcz170_1, hcz170_2, hcz170_3, hfz170_0, hfz170_1, hfz170_2, hfz170_3⟩ := cells4 BK290; obtain ⟨hcz171_0, hcz171_1, hcz171_2, hcz171_3, hfz171_0, hfz171_1, hfz171_2, hfz171_3⟩ := cells4 BK291) | (go_at_call 171; (with_reducible refine (impl_IsOn.calls a0_0 a0_1 a0_2 a0_3 a1_2 a1_3 false _ A130.out).mono ?_); rintro e w172 ⟨rfl, hb⟩; replace BK290 := Aside0.mk (bbz BK290 hb); replace BK291 := Aside0.mk (bbz BK291 hb); replace HB := Aside0.mk (below_step bzs hb); (try clear hb); obtain ⟨hcz173_0, hcz173_1, hcz173_2, hcz173_3, hfz173_0, hfz173_1, hfz173_2, hfz173_3⟩ := cells4 BK291; obtain ⟨hcz174_0, hcz174_1, hcz174_2, hcz174_3, hfz174_0, hfz174_1, hfz174_2, hfz174_3⟩ := cells4 BK290) | (go_at_call 171; (with_reducible refine (impl_IsOn.calls a1_0 a1_1 a1_2 a1_3 a0_0 a0_1 false _ A139.out).mono ?_); rintro e w175 ⟨rfl, hb⟩; replace BK290 := Aside0.mk (bbz BK290 hb); replace BK291 := Aside0.mk (bbz BK291 hb); replace HB := Aside0.mk (below_step bzs hb); (try clear hb); obtain ⟨hcz176_0, hcz176_1, hcz176_2, hcz176_3, hfz176_0, hfz176_1, hfz176_2, hfz176_3⟩ := cells4 BK291; obtain ⟨hcz177_0, hcz177_1, hcz177_2, hcz177_3, hfz177_0, hfz177_1, hfz177_2, hfz177_3⟩ := cells4 BK290) | (go_at_call 171; (with_reducible refine (impl_IsOn.calls a1_0 a1_1 a1_2 a1_3 a0_2 a0_3 false _ A151.out).mono ?_); rintro e w178 ⟨rfl, hb⟩; replace BK290 := Aside0.mk (bbz BK290 hb); replace BK291 := Aside0.mk (bbz BK291 hb); replace HB := Aside0.mk (below_step bzs hb); (try clear hb)))
              go_ret
              exact ⟨ez, bzs⟩
def impl_HowMeet.toH (t : Int) : HL eΓ [.i .i64] := (t, ())
def impl_HowMeet.run (k : Nat) (h : HL eΓ [.st .s85, .st .s85]) : Option (HL eΓ [.i .i64]) := (impl_HowMeet.f k ((h.1 : S85).f0.f0) ((h.1 : S85).f0.f1) ((h.1 : S85).f1.f0) ((h.1 : S85).f1.f1) ((h.2.1 : S85).f0.f0) ((h.2.1 : S85).f0.f1) ((h.2.1 : S85).f1.f0) ((h.2.1 : S85).f1.f1)).map impl_HowMeet.toH
def impl_HowMeet.spec : Spc env := ⟨152, [.st .s85, .st .s85], [.i .i64], impl_HowMeet.run⟩
def impl_HowMeet.ap {R : Type} (k : Nat) (h0 : S85) (h1 : S85) (K : Int → Option R) : Option R := (impl_HowMeet.run k (h0, h1, ())).bind fun r => K (r.1 : Int)
theorem impl_HowMeet.ap_of {R : Type} {k : Nat} {h0 : S85} {h1 : S85} {r0 : Int} {K : Int → Option R} (h : impl_HowMeet.run k (h0, h1, ()) = some (r0, ())) : impl_HowMeet.ap k h0 h1 K = K r0 := by unfold impl_HowMeet.ap; rw [h]; rfl
theorem impl_HowMeet.go {k : Nat} {a0_0 : Int} {a0_1 : Int} {a0_2 : Int} {a0_3 : Int} {a1_0 : Int} {a1_1 : Int} {a1_2 : Int} {a1_3 : Int} {t} (h : impl_HowMeet.f k a0_0 a0_1 a0_2 a0_3 a1_0 a1_1 a1_2 a1_3 = some t) (K : Nat) (hk : k ≤ K) : impl_HowMeet.run K ((⟨(⟨a0_0, a0_1⟩ : S82), (⟨a0_2, a0_3⟩ : S82)⟩ : S85), (⟨(⟨a1_0, a1_1⟩ : S82), (⟨a1_2, a1_3⟩ : S82)⟩ : S85), ()) = some (impl_HowMeet.toH t) := by
  show Option.map _ (impl_HowMeet.f K a0_0 a0_1 a0_2 a0_3 a1_0 a1_1 a1_2 a1_3) = _
  rw [leo_le (f := fun k => impl_HowMeet.f k a0_0 a0_1 a0_2 a0_3 a1_0 a1_1 a1_2 a1_3) (fun k => impl_HowMeet.mono a0_0 a0_1 a0_2 a0_3 a1_0 a1_1 a1_2 a1_3 k) hk h]; rfl
theorem impl_HowMeet.snd : Snd env impl_HowMeet.spec := ⟨⟨Try.f152, by kernel_rfl, by kernel_rfl, by kernel_rfl⟩, fun k h r he w us hA => by
  obtain ⟨t, ht, rfl⟩ := Option.map_eq_some_iff.1 (show (impl_HowMeet.f k ((h.1 : S85).f0.f0) ((h.1 : S85).f0.f1) ((h.1 : S85).f1.f0) ((h.1 : S85).f1.f1) ((h.2.1 : S85).f0.f0) ((h.2.1 : S85).f0.f1) ((h.2.1 : S85).f1.f0) ((h.2.1 : S85).f1.f1)).map impl_HowMeet.toH = some r from he)
  match us, hA with
  | [u0, u1], ⟨q0, q1, _⟩ =>
  obtain ⟨v0, rfl, q0⟩ := q0
  have q0 := (H85.K _ _ _).1 q0
  match e0 : v0.toList, q0 with
  | [c0_0, c0_1, c0_2, c0_3], ⟨p0_0, p0_1, p0_2, p0_3, _⟩ =>
  obtain rfl : v0 = #[c0_0, c0_1, c0_2, c0_3] := by rw [← Array.toArray_toList (xs := v0), e0]
  obtain rfl := List.singleton_inj.1 (show [c0_0] = [Value.int .i64 ((h.1 : S85).f0.f0)] from p0_0)
  obtain rfl := List.singleton_inj.1 (show [c0_1] = [Value.int .i64 ((h.1 : S85).f0.f1)] from p0_1)
  obtain rfl := List.singleton_inj.1 (show [c0_2] = [Value.int .i64 ((h.1 : S85).f1.f0)] from p0_2)
  obtain rfl := List.singleton_inj.1 (show [c0_3] = [Value.int .i64 ((h.1 : S85).f1.f1)] from p0_3)
  obtain ⟨v1, rfl, q1⟩ := q1
  have q1 := (H85.K _ _ _).1 q1
  match e1 : v1.toList, q1 with
  | [c1_0, c1_1, c1_2, c1_3], ⟨p1_0, p1_1, p1_2, p1_3, _⟩ =>
  obtain rfl : v1 = #[c1_0, c1_1, c1_2, c1_3] := by rw [← Array.toArray_toList (xs := v1), e1]
  obtain rfl := List.singleton_inj.1 (show [c1_0] = [Value.int .i64 ((h.2.1 : S85).f0.f0)] from p1_0)
  obtain rfl := List.singleton_inj.1 (show [c1_1] = [Value.int .i64 ((h.2.1 : S85).f0.f1)] from p1_1)
  obtain rfl := List.singleton_inj.1 (show [c1_2] = [Value.int .i64 ((h.2.1 : S85).f1.f0)] from p1_2)
  obtain rfl := List.singleton_inj.1 (show [c1_3] = [Value.int .i64 ((h.2.1 : S85).f1.f1)] from p1_3)
  refine (impl_HowMeet.calls (w := w) (h := ht) ).mono ?_
  rintro e w' ⟨he, hw⟩
  exact ⟨_, he, hw, [.int .i64 t], [fun _ => False], rfl, ⟨rfl, trivial⟩, by simp [DJ]⟩⟩
def impl_IsRing.Fs : List (Spc env) := [impl_around.spec, impl_IsSegment.spec, impl_HowMeet.spec]
def impl_IsRing.fin : St eΓ → Option (HL eΓ [.b]) := finR env Try.f114.results.toList [.b]
def impl_IsRing.cut : Nat → Option (List (Lv SC)) := lk [(5, [⟨3, none, false⟩, ⟨18, none, false⟩, ⟨19, none, false⟩]), (10, [⟨3, none, false⟩, ⟨4, none, false⟩, ⟨18, none, false⟩, ⟨19, none, false⟩, ⟨28, none, false⟩, ⟨29, none, false⟩])]
def impl_IsRing.ret (r0 : Bool) : Option (HL eΓ [.b]) := some (r0, ())
def impl_IsRing.p5 (k : Nat) (x18 : Int) (x19 : Int) (x3 : List S85) : Option (HL eΓ [.b]) := evM env impl_IsRing.Fs Try.f114.ntmps impl_IsRing.fin impl_IsRing.cut k [.code (sub_ [1, 1, 1, 0, 1, 0, 0, 0] (bodyOf Try.f114)), .code (sub_ [1, 1, 1, 0, 1, 0, 0, 1] (bodyOf Try.f114)), .lp (sub_ [1, 1, 1, 0, 1, 0, 0] (bodyOf Try.f114)), .blk 0, .code (sub_ [1, 1, 1, 1] (bodyOf Try.f114))] (mkSt [(3, .c (.sl 0)), (18, .c (.v (.int .i64 x18))), (19, .c (.v (.int .i64 x19)))] [.row .own 85 (.st .s85) x3])
def impl_IsRing.p10 (k : Nat) (x4 : Int) (x18 : Int) (x19 : Int) (x28 : Int) (x29 : Int) (x3 : List S85) : Option (HL eΓ [.b]) := evM env impl_IsRing.Fs Try.f114.ntmps impl_IsRing.fin impl_IsRing.cut k [.code (sub_ [1, 1, 1, 0, 1, 0, 0, 1, 1, 0, 0, 1, 1, 1, 0, 0, 0] (bodyOf Try.f114)), .code (sub_ [1, 1, 1, 0, 1, 0, 0, 1, 1, 0, 0, 1, 1, 1, 0, 0, 1] (bodyOf Try.f114)), .lp (sub_ [1, 1, 1, 0, 1, 0, 0, 1, 1, 0, 0, 1, 1, 1, 0, 0] (bodyOf Try.f114)), .blk 2, .blk 1, .code (sub_ [1, 1, 1, 0, 1, 0, 0, 1, 1, 1] (bodyOf Try.f114)), .lp (sub_ [1, 1, 1, 0, 1, 0, 0] (bodyOf Try.f114)), .blk 0, .code (sub_ [1, 1, 1, 1] (bodyOf Try.f114))] (mkSt [(3, .c (.sl 0)), (4, .c (.v (.int .i64 x4))), (18, .c (.v (.int .i64 x18))), (19, .c (.v (.int .i64 x19))), (28, .c (.v (.int .i64 x28))), (29, .c (.v (.int .i64 x29)))] [.row .own 85 (.st .s85) x3])
theorem impl_IsRing.e5 (k : Nat) (x18 : Int) (x19 : Int) (x3 : List S85) : impl_IsRing.p5 (k + 1) x18 x19 x3 = if x19 < x18 then (if 0 ≤ x19 then (if x19 < (x3.length : Int) then (impl_IsSegment.ap k (⟨(⟨(rd_T85 x3 x19).f0.f0, (rd_T85 x3 x19).f0.f1⟩ : S82), (⟨(rd_T85 x3 x19).f1.f0, (rd_T85 x3 x19).f1.f1⟩ : S82)⟩ : S85) fun r1 => if (!r1) = true then (impl_IsRing.ret false) else (impl_IsRing.p10 k x19 x18 x19 x19 0 x3)) else none) else none) else (impl_IsRing.ret true) := by kernel_rfl
theorem impl_IsRing.e10 (k : Nat) (x4 : Int) (x18 : Int) (x19 : Int) (x28 : Int) (x29 : Int) (x3 : List S85) : impl_IsRing.p10 (k + 1) x4 x18 x19 x28 x29 x3 = if x29 < x28 then (if x29 = (wrap64 (x4 - 1)) then (if 0 ≤ x4 then (if x4 < (x3.length : Int) then (if 0 ≤ x29 then (if x29 < (x3.length : Int) then (impl_HowMeet.ap k (⟨(⟨(rd_T85 x3 x4).f0.f0, (rd_T85 x3 x4).f0.f1⟩ : S82), (⟨(rd_T85 x3 x4).f1.f0, (rd_T85 x3 x4).f1.f1⟩ : S82)⟩ : S85) (⟨(⟨(rd_T85 x3 x29).f0.f0, (rd_T85 x3 x29).f0.f1⟩ : S82), (⟨(rd_T85 x3 x29).f1.f0, (rd_T85 x3 x29).f1.f1⟩ : S82)⟩ : S85) fun r1 => if ¬ r1 = 1 then (impl_IsRing.ret false) else (impl_IsRing.p10 k x4 x18 x19 x28 (wrap64 (x29 + 1)) x3)) else none) else none) else none) else none) else (if x29 = 0 then (if x4 = (wrap64 ((x3.length : Int) - 1)) then (if 0 ≤ x4 then (if x4 < (x3.length : Int) then (if 0 ≤ x29 then (if x29 < (x3.length : Int) then (impl_HowMeet.ap k (⟨(⟨(rd_T85 x3 x4).f0.f0, (rd_T85 x3 x4).f0.f1⟩ : S82), (⟨(rd_T85 x3 x4).f1.f0, (rd_T85 x3 x4).f1.f1⟩ : S82)⟩ : S85) (⟨(⟨(rd_T85 x3 x29).f0.f0, (rd_T85 x3 x29).f0.f1⟩ : S82), (⟨(rd_T85 x3 x29).f1.f0, (rd_T85 x3 x29).f1.f1⟩ : S82)⟩ : S85) fun r2 => if ¬ r2 = 1 then (impl_IsRing.ret false) else (impl_IsRing.p10 k x4 x18 x19 x28 (wrap64 (x29 + 1)) x3)) else none) else none) else none) else none) else (if 0 ≤ x4 then (if x4 < (x3.length : Int) then (if 0 ≤ x29 then (if x29 < (x3.length : Int) then (impl_HowMeet.ap k (⟨(⟨(rd_T85 x3 x4).f0.f0, (rd_T85 x3 x4).f0.f1⟩ : S82), (⟨(rd_T85 x3 x4).f1.f0, (rd_T85 x3 x4).f1.f1⟩ : S82)⟩ : S85) (⟨(⟨(rd_T85 x3 x29).f0.f0, (rd_T85 x3 x29).f0.f1⟩ : S82), (⟨(rd_T85 x3 x29).f1.f0, (rd_T85 x3 x29).f1.f1⟩ : S82)⟩ : S85) fun r3 => if ¬ r3 = 0 then (impl_IsRing.ret false) else (impl_IsRing.p10 k x4 x18 x19 x28 (wrap64 (x29 + 1)) x3)) else none) else none) else none) else none)) else (if 0 ≤ x4 then (if x4 < (x3.length : Int) then (if 0 ≤ x29 then (if x29 < (x3.length : Int) then (impl_HowMeet.ap k (⟨(⟨(rd_T85 x3 x4).f0.f0, (rd_T85 x3 x4).f0.f1⟩ : S82), (⟨(rd_T85 x3 x4).f1.f0, (rd_T85 x3 x4).f1.f1⟩ : S82)⟩ : S85) (⟨(⟨(rd_T85 x3 x29).f0.f0, (rd_T85 x3 x29).f0.f1⟩ : S82), (⟨(rd_T85 x3 x29).f1.f0, (rd_T85 x3 x29).f1.f1⟩ : S82)⟩ : S85) fun r4 => if ¬ r4 = 0 then (impl_IsRing.ret false) else (impl_IsRing.p10 k x4 x18 x19 x28 (wrap64 (x29 + 1)) x3)) else none) else none) else none) else none))) else (impl_IsRing.p5 k x18 (wrap64 (x19 + 1)) x3) := by kernel_rfl
def impl_IsRing.run (k : Nat) (h : HL eΓ [.l 82 (.st .s82)]) : Option (HL eΓ [.b]) := evF env impl_IsRing.Fs Try.f114 impl_IsRing.cut [.l 82 (.st .s82)] [.b] k h
theorem impl_IsRing.ef (k : Nat) (h0 : List S82) : impl_IsRing.run k (h0, ()) = if (h0.length : Int) < 3 then (impl_IsRing.ret false) else (if (h0.length : Int) > 10 then (impl_IsRing.ret false) else (impl_around.ap k h0 fun r1 => impl_IsRing.p5 k (r1.length : Int) 0 r1)) := by kernel_rfl
def impl_IsRing.toH (t : Bool) : HL eΓ [.b] := (t, ())
def impl_IsRing.spec : Spc env := ⟨114, [.l 82 (.st .s82)], [.b], impl_IsRing.run⟩
def impl_IsRing.ap {R : Type} (k : Nat) (h0 : List S82) (K : Bool → Option R) : Option R := (impl_IsRing.run k (h0, ())).bind fun r => K (r.1 : Bool)
theorem impl_IsRing.ap_of {R : Type} {k : Nat} {h0 : List S82} {r0 : Bool} {K : Bool → Option R} (h : impl_IsRing.run k (h0, ()) = some (r0, ())) : impl_IsRing.ap k h0 K = K r0 := by unfold impl_IsRing.ap; rw [h]; rfl
theorem impl_IsRing.snd : Snd env impl_IsRing.spec := evF_snd env_ok (sndC impl_around.snd (sndC impl_IsSegment.snd (sndC impl_HowMeet.snd (sndN)))) (by kernel_rfl) (by kernel_rfl) (by kernel_rfl)
attribute [local irreducible] impl_IsRing.run
theorem impl_IsRing.rt (a0 : Bool) : impl_IsRing.ret a0 = some (impl_IsRing.toH (a0)) := rfl
theorem impl_IsRing.br (n : Nat) : (∀ K, n ≤ K → ∀ (x18 : Int) (x19 : Int) (x3 : List S85) t, impl_IsRing.l0 n x3 x18 x19 = some t → impl_IsRing.p5 K x18 x19 x3 = some (impl_IsRing.toH t)) ∧ (∀ K, n ≤ K → ∀ (x4 : Int) (x18 : Int) (x19 : Int) (x28 : Int) (x29 : Int) (x3 : List S85) t, impl_IsRing.l1 n x3 x4 x18 x19 x28 x29 = some t → impl_IsRing.p10 K x4 x18 x19 x28 x29 x3 = some (impl_IsRing.toH t)) := by
  induction n using Nat.strongRecOn with
  | _ n ih =>
  refine ⟨fun K hK x18 x19 x3 t h => ?_, fun K hK x4 x18 x19 x28 x29 x3 t h => ?_⟩
  all_goals (rcases n with _ | k)
  all_goals (try (exact nos h))
  all_goals (obtain ⟨K, rfl⟩ : ∃ q, K = q + 1 := ⟨K - 1, by omega⟩)
  all_goals (first | rw [impl_IsRing.e5] | rw [impl_IsRing.e10])
  all_goals (simp only [impl_IsRing.l0, impl_IsRing.l1] at h)
  repeat' (with_reducible first
   | exact nos h
   | (cases some_inj h; exact impl_IsRing.rt _)
   | exact (ih _ (by omega)).1 _ (by omega) _ _ _ _ h
   | exact (ih _ (by omega)).2 _ (by omega) _ _ _ _ _ _ _ h
   | ((have q : impl_IsRing.j0 k _ _ = some _ := h; clear q); rcases k with _ | k <;> simp only [impl_IsRing.j0, reduceCtorEq] at h)
   | ((have q : impl_IsRing.j3 k _ _ _ _ _ _ _ _ _ = some _ := h; clear q); rcases k with _ | k <;> simp only [impl_IsRing.j3, reduceCtorEq] at h)
   | (simp only [Option.bind_some] at h)
   | (refine ite_by h (fun hc h => ?_) (fun hc h => ?_) <;> (try simp only [nrm] at hc))
   | refine itT ?_ (by first | assumption | omega | (simp only [nrm]; first | done | assumption | omega) | (simp only [nln] at hc ⊢; omega))
   | refine itF ?_ (by first | assumption | omega | (simp only [nrm]; first | done | assumption | omega) | (simp only [nln] at hc ⊢; omega))
   | (refine bind_by h (fun t ht h => ?_); (first | refine (impl_around.ap_of (impl_around.go ht _ (by omega))).trans ?_ | refine (impl_IsSegment.ap_of (impl_IsSegment.go ht _)).trans ?_ | refine (impl_HowMeet.ap_of (impl_HowMeet.go ht _ (by omega))).trans ?_); (try dsimp only at h ⊢))
   | (simp only [decide_not, Bool.decide_and, decide_true, Bool.and_true, Bool.not_and, beqI, Int.toNat_natCast, List.take_length] at h ⊢)
   | (exfalso; omega))
theorem impl_IsRing.go {k : Nat} {l0 : List S82} {t} (h : impl_IsRing.f k l0 = some t) (K : Nat) (hK : k ≤ K) : impl_IsRing.run K (l0, ()) = some (impl_IsRing.toH t) := by
  rw [impl_IsRing.ef]
  (try dsimp only)
  unfold impl_IsRing.f at h
  repeat' (with_reducible first
   | exact nos h
   | (cases some_inj h; exact impl_IsRing.rt _)
   | exact (impl_IsRing.br _).1 _ (by omega) _ _ _ _ h
   | exact (impl_IsRing.br _).2 _ (by omega) _ _ _ _ _ _ _ h
   | ((have q : impl_IsRing.j0 k _ _ = some _ := h; clear q); rcases k with _ | k <;> simp only [impl_IsRing.j0, reduceCtorEq] at h)
   | ((have q : impl_IsRing.j3 k _ _ _ _ _ _ _ _ _ = some _ := h; clear q); rcases k with _ | k <;> simp only [impl_IsRing.j3, reduceCtorEq] at h)
   | (simp only [Option.bind_some] at h)
   | (refine ite_by h (fun hc h => ?_) (fun hc h => ?_) <;> (try simp only [nrm] at hc))
   | refine itT ?_ (by first | assumption | omega | (simp only [nrm]; first | done | assumption | omega) | (simp only [nln] at hc ⊢; omega))
   | refine itF ?_ (by first | assumption | omega | (simp only [nrm]; first | done | assumption | omega) | (simp only [nln] at hc ⊢; omega))
   | (refine bind_by h (fun t ht h => ?_); (first | refine (impl_around.ap_of (impl_around.go ht _ (by omega))).trans ?_ | refine (impl_IsSegment.ap_of (impl_IsSegment.go ht _)).trans ?_ | refine (impl_HowMeet.ap_of (impl_HowMeet.go ht _ (by omega))).trans ?_); (try dsimp only at h ⊢))
   | (simp only [decide_not, Bool.decide_and, decide_true, Bool.and_true, Bool.not_and, beqI, Int.toNat_natCast, List.take_length] at h ⊢)
   | (exfalso; omega))
def impl_IsName.Fs : List (Spc env) := [impl_InRange.spec]
def impl_IsName.fin : St eΓ → Option (HL eΓ [.b]) := finR env Try.f122.results.toList [.b]
def impl_IsName.cut : Nat → Option (List (Lv SC)) := lk [(2, [⟨0, none, false⟩, ⟨5, none, false⟩, ⟨6, none, false⟩])]
def impl_IsName.ret (r0 : Bool) : Option (HL eΓ [.b]) := some (r0, ())
def impl_IsName.p2 (k : Nat) (x0 : ByteArray) (x5 : Int) (x6 : Int) : Option (HL eΓ [.b]) := evM env impl_IsName.Fs Try.f122.ntmps impl_IsName.fin impl_IsName.cut k [.code (sub_ [1, 0, 1, 0, 0, 0] (bodyOf Try.f122)), .code (sub_ [1, 0, 1, 0, 0, 1] (bodyOf Try.f122)), .lp (sub_ [1, 0, 1, 0, 0] (bodyOf Try.f122)), .blk 0, .code (sub_ [1, 1] (bodyOf Try.f122))] (mkSt [(0, .c (.v (.string x0))), (5, .c (.v (.int .i64 x5))), (6, .c (.v (.int .i64 x6)))] [])
theorem impl_IsName.e2 (k : Nat) (x0 : ByteArray) (x5 : Int) (x6 : Int) : impl_IsName.p2 (k + 1) x0 x5 x6 = if x6 < x5 then (if 0 ≤ x6 then (if x6 < (x0.size : Int) then (if (bt x0 x6) < 97 then (impl_IsName.ret false) else (if 0 ≤ x6 then (if x6 < (x0.size : Int) then (if (bt x0 x6) > 122 then (impl_IsName.ret false) else (impl_IsName.p2 k x0 x5 (wrap64 (x6 + 1)))) else none) else none)) else none) else none) else (impl_InRange.ap k (x0.size : Int) 1 8 fun r1 => impl_IsName.ret r1) := by kernel_rfl
def impl_IsName.run (k : Nat) (h : HL eΓ [.s]) : Option (HL eΓ [.b]) := evF env impl_IsName.Fs Try.f122 impl_IsName.cut [.s] [.b] k h
theorem impl_IsName.ef (k : Nat) (h0 : ByteArray) : impl_IsName.run k (h0, ()) = impl_IsName.p2 k h0 (h0.size : Int) 0 := by kernel_rfl
def impl_IsName.toH (t : Bool) : HL eΓ [.b] := (t, ())
def impl_IsName.spec : Spc env := ⟨122, [.s], [.b], impl_IsName.run⟩
def impl_IsName.ap {R : Type} (k : Nat) (h0 : ByteArray) (K : Bool → Option R) : Option R := (impl_IsName.run k (h0, ())).bind fun r => K (r.1 : Bool)
theorem impl_IsName.ap_of {R : Type} {k : Nat} {h0 : ByteArray} {r0 : Bool} {K : Bool → Option R} (h : impl_IsName.run k (h0, ()) = some (r0, ())) : impl_IsName.ap k h0 K = K r0 := by unfold impl_IsName.ap; rw [h]; rfl
theorem impl_IsName.snd : Snd env impl_IsName.spec := evF_snd env_ok (sndC impl_InRange.snd (sndN)) (by kernel_rfl) (by kernel_rfl) (by kernel_rfl)
attribute [local irreducible] impl_IsName.run
theorem impl_IsName.rt (a0 : Bool) : impl_IsName.ret a0 = some (impl_IsName.toH (a0)) := rfl
theorem impl_IsName.br (n : Nat) : (∀ K, n ≤ K → ∀ (x0 : ByteArray) (x5 : Int) (x6 : Int) t, impl_IsName.l0 n x0 x5 x6 = some t → impl_IsName.p2 K x0 x5 x6 = some (impl_IsName.toH t)) := by
  induction n using Nat.strongRecOn with
  | _ n ih =>
  intro K hK x0 x5 x6 t h
  all_goals (rcases n with _ | k)
  all_goals (try (exact nos h))
  all_goals (obtain ⟨K, rfl⟩ : ∃ q, K = q + 1 := ⟨K - 1, by omega⟩)
  all_goals (first | rw [impl_IsName.e2])
  all_goals (simp only [impl_IsName.l0] at h)
  repeat' (with_reducible first
   | exact nos h
   | (cases some_inj h; exact impl_IsName.rt _)
   | exact (ih _ (by omega)) _ (by omega) _ _ _ _ h
   | (simp only [Option.bind_some] at h)
   | (refine ite_by h (fun hc h => ?_) (fun hc h => ?_) <;> (try simp only [nrm] at hc))
   | refine itT ?_ (by first | assumption | omega | (simp only [nrm]; first | done | assumption | omega) | (simp only [nln] at hc ⊢; omega))
   | refine itF ?_ (by first | assumption | omega | (simp only [nrm]; first | done | assumption | omega) | (simp only [nln] at hc ⊢; omega))
   | (refine bind_by h (fun t ht h => ?_); refine (impl_InRange.ap_of (impl_InRange.go ht _)).trans ?_; (try dsimp only at h ⊢))
   | (simp only [decide_not, Bool.decide_and, decide_true, Bool.and_true, Bool.not_and, beqI, Int.toNat_natCast, List.take_length] at h ⊢)
   | (exfalso; omega))
theorem impl_IsName.go {k : Nat} {a0 : ByteArray} {t} (h : impl_IsName.f k a0 = some t) (K : Nat) (hK : k ≤ K) : impl_IsName.run K (a0, ()) = some (impl_IsName.toH t) := by
  rw [impl_IsName.ef]
  (try dsimp only)
  unfold impl_IsName.f at h
  repeat' (with_reducible first
   | exact nos h
   | (cases some_inj h; exact impl_IsName.rt _)
   | exact (impl_IsName.br _) _ (by omega) _ _ _ _ h
   | (simp only [Option.bind_some] at h)
   | (refine ite_by h (fun hc h => ?_) (fun hc h => ?_) <;> (try simp only [nrm] at hc))
   | refine itT ?_ (by first | assumption | omega | (simp only [nrm]; first | done | assumption | omega) | (simp only [nln] at hc ⊢; omega))
   | refine itF ?_ (by first | assumption | omega | (simp only [nrm]; first | done | assumption | omega) | (simp only [nln] at hc ⊢; omega))
   | (refine bind_by h (fun t ht h => ?_); refine (impl_InRange.ap_of (impl_InRange.go ht _)).trans ?_; (try dsimp only at h ⊢))
   | (simp only [decide_not, Bool.decide_and, decide_true, Bool.and_true, Bool.not_and, beqI, Int.toNat_natCast, List.take_length] at h ⊢)
   | (exfalso; omega))
def impl_IsLine.Fs : List (Spc env) := [impl_IsPoint.spec]
def impl_IsLine.fin : St eΓ → Option (HL eΓ [.b]) := finR env Try.f111.results.toList [.b]
def impl_IsLine.cut : Nat → Option (List (Lv SC)) := lk [(4, [⟨0, none, false⟩, ⟨13, none, false⟩, ⟨14, none, false⟩, ⟨15, none, false⟩])]
def impl_IsLine.ret (r0 : Bool) : Option (HL eΓ [.b]) := some (r0, ())
def impl_IsLine.p4 (k : Nat) (x14 : Int) (x15 : Int) (x0 : List S82) : Option (HL eΓ [.b]) := evM env impl_IsLine.Fs Try.f111.ntmps impl_IsLine.fin impl_IsLine.cut k [.code (sub_ [1, 1, 0, 1, 0, 0, 0] (bodyOf Try.f111)), .code (sub_ [1, 1, 0, 1, 0, 0, 1] (bodyOf Try.f111)), .lp (sub_ [1, 1, 0, 1, 0, 0] (bodyOf Try.f111)), .blk 0, .code (sub_ [1, 1, 1] (bodyOf Try.f111))] (mkSt [(0, .c (.sl 0)), (13, .c (.sl 0)), (14, .c (.v (.int .i64 x14))), (15, .c (.v (.int .i64 x15)))] [.row .ro 82 (.st .s82) x0])
theorem impl_IsLine.e4 (k : Nat) (x14 : Int) (x15 : Int) (x0 : List S82) : impl_IsLine.p4 (k + 1) x14 x15 x0 = if x15 < x14 then (if 0 ≤ x15 then (if x15 < (x0.length : Int) then (impl_IsPoint.ap k (⟨(rd_T82 x0 x15).f0, (rd_T82 x0 x15).f1⟩ : S82) fun r1 => if (!r1) = true then (impl_IsLine.ret false) else (if x15 > 0 then (if 0 ≤ (wrap64 (x15 - 1)) then (if (wrap64 (x15 - 1)) < (x0.length : Int) then (if ((rd_T82 x0 x15).f0) = ((rd_T82 x0 (wrap64 (x15 - 1))).f0) ∧ (((rd_T82 x0 x15).f1) = ((rd_T82 x0 (wrap64 (x15 - 1))).f1) ∧ True) then (impl_IsLine.ret false) else (impl_IsLine.p4 k x14 (wrap64 (x15 + 1)) x0)) else none) else none) else (impl_IsLine.p4 k x14 (wrap64 (x15 + 1)) x0))) else none) else none) else (impl_IsLine.ret true) := by kernel_rfl
def impl_IsLine.run (k : Nat) (h : HL eΓ [.l 82 (.st .s82)]) : Option (HL eΓ [.b]) := evF env impl_IsLine.Fs Try.f111 impl_IsLine.cut [.l 82 (.st .s82)] [.b] k h
theorem impl_IsLine.ef (k : Nat) (h0 : List S82) : impl_IsLine.run k (h0, ()) = if (h0.length : Int) < 2 then (impl_IsLine.ret false) else (if (h0.length : Int) > 10 then (impl_IsLine.ret false) else (impl_IsLine.p4 k (h0.length : Int) 0 h0)) := by kernel_rfl
def impl_IsLine.toH (t : Bool) : HL eΓ [.b] := (t, ())
def impl_IsLine.spec : Spc env := ⟨111, [.l 82 (.st .s82)], [.b], impl_IsLine.run⟩
def impl_IsLine.ap {R : Type} (k : Nat) (h0 : List S82) (K : Bool → Option R) : Option R := (impl_IsLine.run k (h0, ())).bind fun r => K (r.1 : Bool)
theorem impl_IsLine.ap_of {R : Type} {k : Nat} {h0 : List S82} {r0 : Bool} {K : Bool → Option R} (h : impl_IsLine.run k (h0, ()) = some (r0, ())) : impl_IsLine.ap k h0 K = K r0 := by unfold impl_IsLine.ap; rw [h]; rfl
theorem impl_IsLine.snd : Snd env impl_IsLine.spec := evF_snd env_ok (sndC impl_IsPoint.snd (sndN)) (by kernel_rfl) (by kernel_rfl) (by kernel_rfl)
attribute [local irreducible] impl_IsLine.run
theorem impl_IsLine.rt (a0 : Bool) : impl_IsLine.ret a0 = some (impl_IsLine.toH (a0)) := rfl
theorem impl_IsLine.br (n : Nat) : (∀ K, n ≤ K → ∀ (x14 : Int) (x15 : Int) (x0 : List S82) t, impl_IsLine.l0 n x0 x0 x14 x15 = some t → impl_IsLine.p4 K x14 x15 x0 = some (impl_IsLine.toH t)) := by
  induction n using Nat.strongRecOn with
  | _ n ih =>
  intro K hK x14 x15 x0 t h
  all_goals (rcases n with _ | k)
  all_goals (try (exact nos h))
  all_goals (obtain ⟨K, rfl⟩ : ∃ q, K = q + 1 := ⟨K - 1, by omega⟩)
  all_goals (first | rw [impl_IsLine.e4])
  all_goals (simp only [impl_IsLine.l0] at h)
  repeat' (with_reducible first
   | exact nos h
   | (cases some_inj h; exact impl_IsLine.rt _)
   | exact (ih _ (by omega)) _ (by omega) _ _ _ _ h
   | ((have q : impl_IsLine.j0 k _ _ = some _ := h; clear q); rcases k with _ | k <;> simp only [impl_IsLine.j0, reduceCtorEq] at h)
   | (simp only [Option.bind_some] at h)
   | (refine ite_by h (fun hc h => ?_) (fun hc h => ?_) <;> (try simp only [nrm] at hc))
   | refine itT ?_ (by first | assumption | omega | (simp only [nrm]; first | done | assumption | omega) | (simp only [nln] at hc ⊢; omega))
   | refine itF ?_ (by first | assumption | omega | (simp only [nrm]; first | done | assumption | omega) | (simp only [nln] at hc ⊢; omega))
   | (refine bind_by h (fun t ht h => ?_); refine (impl_IsPoint.ap_of (impl_IsPoint.go ht _)).trans ?_; (try dsimp only at h ⊢))
   | (simp only [decide_not, Bool.decide_and, decide_true, Bool.and_true, Bool.not_and, beqI, Int.toNat_natCast, List.take_length] at h ⊢)
   | (exfalso; omega))
theorem impl_IsLine.go {k : Nat} {l0 : List S82} {t} (h : impl_IsLine.f k l0 = some t) (K : Nat) (hK : k ≤ K) : impl_IsLine.run K (l0, ()) = some (impl_IsLine.toH t) := by
  rw [impl_IsLine.ef]
  (try dsimp only)
  unfold impl_IsLine.f at h
  repeat' (with_reducible first
   | exact nos h
   | (cases some_inj h; exact impl_IsLine.rt _)
   | exact (impl_IsLine.br _) _ (by omega) _ _ _ _ h
   | ((have q : impl_IsLine.j0 k _ _ = some _ := h; clear q); rcases k with _ | k <;> simp only [impl_IsLine.j0, reduceCtorEq] at h)
   | (simp only [Option.bind_some] at h)
   | (refine ite_by h (fun hc h => ?_) (fun hc h => ?_) <;> (try simp only [nrm] at hc))
   | refine itT ?_ (by first | assumption | omega | (simp only [nrm]; first | done | assumption | omega) | (simp only [nln] at hc ⊢; omega))
   | refine itF ?_ (by first | assumption | omega | (simp only [nrm]; first | done | assumption | omega) | (simp only [nln] at hc ⊢; omega))
   | (refine bind_by h (fun t ht h => ?_); refine (impl_IsPoint.ap_of (impl_IsPoint.go ht _)).trans ?_; (try dsimp only at h ⊢))
   | (simp only [decide_not, Bool.decide_and, decide_true, Bool.and_true, Bool.not_and, beqI, Int.toNat_natCast, List.take_length] at h ⊢)
   | (exfalso; omega))
def impl_SegmentsOf.Fs : List (Spc env) := [impl_IsLine.spec]
def impl_SegmentsOf.fin : St eΓ → Option (HL eΓ [.l 85 (.st .s85)]) := finR env Try.f126.results.toList [.l 85 (.st .s85)]
def impl_SegmentsOf.cut : Nat → Option (List (Lv SC)) := lk [(5, [⟨0, none, false⟩, ⟨3, none, false⟩, ⟨4, none, false⟩])]
def impl_SegmentsOf.ret (r0 : List S85) : Option (HL eΓ [.l 85 (.st .s85)]) := some (r0, ())
def impl_SegmentsOf.p5 (k : Nat) (x4 : Int) (x0 : List S82) (x3 : List S85) : Option (HL eΓ [.l 85 (.st .s85)]) := evM env impl_SegmentsOf.Fs Try.f126.ntmps impl_SegmentsOf.fin impl_SegmentsOf.cut k [.code (sub_ [1, 1, 1, 0, 1, 0, 0, 0, 0] (bodyOf Try.f126)), .code (sub_ [1, 1, 1, 0, 1, 0, 0, 0, 1] (bodyOf Try.f126)), .code (sub_ [1, 1, 1, 0, 1, 0, 0, 1] (bodyOf Try.f126)), .lp (sub_ [1, 1, 1, 0, 1, 0, 0] (bodyOf Try.f126)), .blk 0, .code (sub_ [1, 1, 1, 1] (bodyOf Try.f126))] (mkSt [(0, .c (.sl 0)), (3, .c (.sl 1)), (4, .c (.v (.int .i64 x4)))] [.row .ro 82 (.st .s82) x0, .row .own 85 (.st .s85) x3])
theorem impl_SegmentsOf.e5 (k : Nat) (x4 : Int) (x0 : List S82) (x3 : List S85) : impl_SegmentsOf.p5 (k + 1) x4 x0 x3 = if x4 < (x0.length : Int) then (if 0 ≤ (wrap64 (x4 - 1)) then (if (wrap64 (x4 - 1)) < (x0.length : Int) then (if 0 ≤ x4 then (if x4 < (x0.length : Int) then (if (x3.length + 1) * 32 ≤ 140737488355328 then (impl_SegmentsOf.p5 k (wrap64 (x4 + 1)) x0 (x3 ++ [(⟨(⟨(rd_T82 x0 (wrap64 (x4 - 1))).f0, (rd_T82 x0 (wrap64 (x4 - 1))).f1⟩ : S82), (⟨(rd_T82 x0 x4).f0, (rd_T82 x0 x4).f1⟩ : S82)⟩ : S85)])) else none) else none) else none) else none) else none) else (impl_SegmentsOf.ret x3) := by kernel_rfl
def impl_SegmentsOf.run (k : Nat) (h : HL eΓ [.l 82 (.st .s82)]) : Option (HL eΓ [.l 85 (.st .s85)]) := evF env impl_SegmentsOf.Fs Try.f126 impl_SegmentsOf.cut [.l 82 (.st .s82)] [.l 85 (.st .s85)] k h
end
end Go.Proofs.Ytdfehjfmihokpaa.PFnExactIsChart
