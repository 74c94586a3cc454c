-- Written by a program of this session's (evlaw.py).
import Derived.Test.YtkebhlkbnnlegaaPFnExactShrinkFeaturex0
import Derived.Test.YtkebhlkbnnlegaaEvX
import Derived.Test.YtkebhlkbnnlegaaZ
import Derived.Test.YtkebhlkbnnlegaaProg
import Derived.Below
import Derived.Deep.Draws
import Derived.Deep.AppendLies
import Derived.Maps.AppendAt
import Derived.OwnWalk
import Derived.Laws.BytesArg
import Derived.Laws.MakeOwn
import Derived.Laws.OwnMore
import Derived.Deep.OwnRows
import Derived.Tactics
import Derived.Lib.ConvBytes
import Derived.Laws.Slices
import Derived.WalkKit
import Derived.KernelRfl
import Derived.RowKit3
import Derived.Deep.LoopGhost
import Derived.Deep.QuietTactic
import Derived.BigQuiet
import Derived.WideLaws
import Derived.Deep.DeepCutAuto
import Derived.Deep.CutBlock
import Derived.Deep.RegionHeld3
import Derived.Laws.Rows
import Derived.Lib.AppendStr
import Derived.ArgAppend
import Derived.Laws.IdiomCopy
import Derived.OrdersHeld
import Derived.Laws.BitsLemmas
import Derived.RowKit
import Derived.Test.YtkebhlkbnnlegaaGeo
import Derived.Test.YtkebhlkbnnlegaaHand
import Derived.Test.YtkebhlkbnnlegaaMeet
import Derived.Test.YtkebhlkbnnlegaaQuiet
import Derived.Test.YtkebhlkbnnlegaaWWords
import Derived.Test.YtkebhlkbnnlegaaWLast
import Derived.Test.YtkebhlkbnnlegaaWTab
import Derived.Test.YtkebhlkbnnlegaaWFour
import Derived.Test.YtkebhlkbnnlegaaWQPut
import Derived.Test.YtkebhlkbnnlegaaWApart
import Derived.Test.YtkebhlkbnnlegaaWArr
import Derived.Test.YtkebhlkbnnlegaaWZeros
import Derived.Test.YtkebhlkbnnlegaaWFoot
import Derived.Test.YtkebhlkbnnlegaaWKept
import Derived.Test.YtkebhlkbnnlegaaWShare
import Derived.Test.YtkebhlkbnnlegaaWN
import Derived.Test.YtkebhlkbnnlegaaWFootNe
import Derived.Test.YtkebhlkbnnlegaaWAt
import Derived.Test.YtkebhlkbnnlegaaWEqStruct
import Derived.Test.YtkebhlkbnnlegaaWRepsOne
import Derived.Test.YtkebhlkbnnlegaaWInv
import Derived.Test.YtkebhlkbnnlegaaWInvWords
import Derived.Test.YtkebhlkbnnlegaaWGuard
import Derived.Test.YtkebhlkbnnlegaaWNEv
import Derived.Test.YtkebhlkbnnlegaaWMore
namespace Go.Proofs.Ytkebhlkbnnlegaa.PFnExactShrinkFeature
open Go.RowKit Go.Proofs.YtkebhlkbnnlegaaW.PrintWords Go.Proofs.YtkebhlkbnnlegaaW.PrintLast Go.Proofs.YtkebhlkbnnlegaaW.PrintMore Go.Proofs.YtkebhlkbnnlegaaGeo Go.Proofs.YtkebhlkbnnlegaaHand Go.Proofs.YtkebhlkbnnlegaaMeet Go.Proofs.YtkebhlkbnnlegaaQuiet Go.Proofs.YtkebhlkbnnlegaaZ
open Go Go.Proofs.YtkebhlkbnnlegaaEv
attribute [local go_sem] max2_int min2_int max_two min_two max_three min_three max_four min_four   -- for this text's walks alone
set_option linter.unusedVariables false
set_option linter.unusedSimpArgs false



set_option linter.unusedSimpArgs false

attribute [local go_sem high] eqA77
set_option linter.unusedVariables false
set_option linter.unusedSimpArgs false
set_option maxRecDepth 100000
noncomputable section
set_option maxHeartbeats 8000000 in
set_option maxRecDepth 100000 in
theorem laws_markPointS.calls (k : Nat) (P0_ : Nat → Prop) (u9000_ : Value) (l0 : List (S77)) (a1 : Int) (r1 : Int) (r2 : List (S77)) (w0 w : World) (hB : Below w0.heap.size w0 w) (ho0 : Kd.R k77 77 w w0.heap.size P0_ u9000_ l0) (h : laws_markPointS.f k l0 a1 = some (r1, r2)) :
  Calls Try.prog 47 #[u9000_, .int .i64 a1] w fun e w' => e = .returned (.int .i64 r1) ∧ Kd.R k77 77 w' w0.heap.size (fun k_ => (P0_ k_ ∨ w.heap.size ≤ k_)) u9000_ r2 ∧ Below w0.heap.size w0 w' ∧ Kept w w' (fun k_ => P0_ k_) := by
 have HO0 := Aside0.mk (show Kd.R k77 77 w w0.heap.size (fun k_ => (P0_ k_ ∨ w.heap.size ≤ k_)) u9000_ l0 from Kd.R_mono ho0 (fun k_ hk => (.inl hk))); have HK := Aside0.mk (Kept.refl w (fun k_ => P0_ k_)); have HW0 := Aside0.mk hB.size; have HB := Aside0.mk hB; clear hB; have H : (laws_markPointS.l0 k l0 a1 0) = some (r1, r2) := h; clear h; have H' := Aside0.mk H; clear H
 go_enter Try.func47, Try.ntmps47; go_wp2
 go_loopg [1, 5] k (fun kq v1 v5 w' => ∃ (x0_1 : List (S77)) (x1_1 : Int) (x5_1 : Int), v1 = .int .i64 x1_1 ∧ v5 = .int .i64 x5_1 ∧ Aside0 (laws_markPointS.l0 kq x0_1 x1_1 x5_1 = some (r1, r2)) ∧ Aside0 (kq ≤ k) ∧ Aside0 (Kd.R k77 77 w' w0.heap.size (fun k_ => (P0_ k_ ∨ w.heap.size ≤ k_)) u9000_ x0_1) ∧ Aside0 (Kept w w' (fun k_ => P0_ k_)) ∧ Aside0 (Below w0.heap.size w0 w'))
 case atStart => exact ⟨(l0), (a1), (0), rz, rz, H', ⟨Nat.le_refl _⟩, ⟨hr HO0.out⟩, ⟨by repeat (first | (with_reducible first | exact HK.out | apply Kept.alloc | apply Kept.drewN | apply Kept.drew) | exact HK.out)⟩, ⟨bz⟩⟩
 case round =>
  clear H'; (try clear p2); obtain ⟨x0_1, x1_1, x5_1, rfl, rfl, HA, HK1, HO_0, HK, HB⟩ := hrel
  cases gk with
  | zero => exact absurd HA.out (by simp [laws_markPointS.l0])
  | succ k1 =>
   have H := HA.out; clear HA; simp only [laws_markPointS.l0] at H
   by_cases c3 : x5_1 < (x0_1.length : Int)
   ·rw [if_pos c3] at H; have c3b0 := decide_eq_true c3; clear c3
    by_cases c4 : 0 ≤ x5_1
    ·rw [if_pos c4] at H; have c4b0 := decide_eq_true c4; clear c4; obtain ⟨y127, hy127⟩ : ∃ y_ : List (S77), y_ = (x0_1.set (x5_1 : Int).toNat (⟨x1_1, (rd_T77 x0_1 x5_1).f1⟩ : S77)) := ⟨_, rfl⟩
     replace H : (laws_markPointS.l0 k1 (y127.set (x5_1 : Int).toNat (⟨(rd_T77 y127 x5_1).f0, wrap64 (x1_1 + 1)⟩ : S77)) (wrap64 ((wrap64 (x1_1 + 1)) + 1)) (wrap64 (x5_1 + 1))) = some (r1, r2) := by first | (rw [hy127]; with_reducible exact H) | (have H2_ := (Option.bind_some _ _).symm.trans H; rw [hy127]; with_reducible exact H2_) | (have H2_ := (Option.bind_some _ _).symm.trans H; with_reducible exact H2_) | with_reducible exact H | (rw [hy127]; exact H) | exact H
     have Ny127 := Aside0.mk hy127; clear hy127; obtain ⟨y128, hy128⟩ : ∃ y_ : List (S77), y_ = (y127.set (x5_1 : Int).toNat (⟨(rd_T77 y127 x5_1).f0, wrap64 (x1_1 + 1)⟩ : S77)) := ⟨_, rfl⟩
     replace H : (laws_markPointS.l0 k1 y128 (wrap64 ((wrap64 (x1_1 + 1)) + 1)) (wrap64 (x5_1 + 1))) = some (r1, r2) := by first | (rw [hy128]; with_reducible exact H) | (have H2_ := (Option.bind_some _ _).symm.trans H; rw [hy128]; with_reducible exact H2_) | (have H2_ := (Option.bind_some _ _).symm.trans H; with_reducible exact H2_) | with_reducible exact H | (rw [hy128]; exact H) | exact H
     have Ny128 := Aside0.mk hy128; clear hy128; have H' := Aside0.mk H; clear H; obtain ⟨Ao7, co7, eo7⟩ := Kd.R_slice HO_0.out; subst eo7; have p5 : 0 ≤ (x5_1 : Int) := of_decide_eq_true az; have q5 : (x5_1 : Int) < ((x0_1.length : Int) : Int) := of_decide_eq_true az; obtain ⟨go5, co5, eo5, gb5, gl5, cl5, HG5⟩ := Kd.R_form HO_0.out (by omega)
     (first | cases eo5 | (injection eo5 with ea_ en_ ec_; (first | subst ea_ | (injection ea_ with ea_; subst ea_)); subst ec_; clear en_))
     have GB5 := Aside0.mk gb5; have GG5 := Aside0.mk HG5; clear gb5 gl5 HG5; have HMgo5 := Aside0.mk (show (P0_ go5 ∨ w.heap.size ≤ go5) from (HO_0.out.1 _ rfl)); obtain ⟨ce5, hcl5, hM5, hcc5, hfr5⟩ := Kd.R_elem HO_0.out z77 (x5_1 : Int) p5 q5; obtain rfl := k77_openM hM5; have hx5_0 : wr.cell? ⟨go5, (x5_1 : Int).toNat * 2, none⟩ = some (.int .i64 ((rd_T77 x0_1 x5_1).f0)) := hcc5 0 _ rfl; have hx5_1 : wr.cell? ⟨go5, (x5_1 : Int).toNat * 2 + 1, none⟩ = some (.int .i64 ((rd_T77 x0_1 x5_1).f1)) := hcc5 1 _ rfl; have hf5_0 : wr.frozen? ⟨go5, (x5_1 : Int).toNat * 2, none⟩ = false := hfr5 0; have hf5_1 : wr.frozen? ⟨go5, (x5_1 : Int).toNat * 2 + 1, none⟩ = false := hfr5 1; clear hcl5 hcc5 hfr5 hM5; replace p5 := eq_true p5; replace q5 := eq_true q5; have HX8 := Aside0.mk (show Kd.R k77 77 wr w0.heap.size (fun k_ => (P0_ k_ ∨ w.heap.size ≤ k_)) (.slice (some ⟨go5, 0, none⟩) x0_1.length co7) x0_1 from (hr HO_0.out)); obtain ⟨ce8, hcl8, hM8, hcc8, hfr8⟩ := Kd.R_elem HX8.out z77 (x5_1 : Int) (of_decide_eq_true az) (by have h_ : (x5_1 : Int) < ((x0_1.length : Int) : Int) := of_decide_eq_true az; first | exact h_ | (have e_ := (Kd.R_reads' HO_0.out).1; omega) | simpa using h_); obtain rfl := k77_openM hM8; have HP8 := Kd.R_seg HX8.out (x5_1 : Int) (of_decide_eq_true az) (by have h_ : (x5_1 : Int) < ((x0_1.length : Int) : Int) := of_decide_eq_true az; first | exact h_ | (have e_ := (Kd.R_reads' HO_0.out).1; omega) | simpa using h_) (seg := [.int .i64 x1_1]) (j := 0) hcl8 hcc8 (show 1 ≤ 2 from by decide) (x' := (⟨x1_1, (rd_T77 x0_1 x5_1).f1⟩ : S77)) (k77_mkM _ _ _ (⟨x1_1, (rd_T77 x0_1 x5_1).f1⟩ : S77) ) (fun _ hk => hk)
     have hx8_0 := hcc8 0 _ rfl; (try simp only [show (k77).sz = 2 from rfl, Nat.mul_one, Nat.add_zero] at hx8_0); have hf8_0 := hfr8 0; (try simp only [show (k77).sz = 2 from rfl, Nat.mul_one, Nat.add_zero] at hf8_0); clear hcl8 hcc8 hfr8 hM8; go_wp2_with (first | ((with_reducible refine gate_store (t := 3) (p := 16) rfl ?_); refine store_event (t := 3) (p := 16) (v := ?vo_w9) (w1 := (wr.setCell ⟨go5, (x5_1 : Int).toNat * 2, none⟩ (.int .i64 x1_1))) ?hg ?ho ?hn ?hr ?_; (case ho => rfl); (case hg => rfl); (case hn => rfl); (case hr => first | (go_simp; done) | (go_simp; rfl)); intro w9 hw; have hg : wr.grownBy w9 (some go5) := (by rw [hw]; exact HP8.2); have hp_ : Kd.R k77 77 w9 w0.heap.size (fun k_ => (P0_ k_ ∨ w.heap.size ≤ k_)) (.slice (some ⟨go5, 0, none⟩) x0_1.length co7) y127 := (by rw [hw, Ny127.out]; exact HP8.1); clear HP8; replace HB := Aside0.mk ((by rw [hw]; exact below_set (HB.out) GB5.out : Below w0.heap.size w0 w9)); replace HK := Aside0.mk (Kept.of_grown (S := (fun k_ => P0_ k_)) hg (by repeat (first | (with_reducible first | exact HK.out | apply Kept.alloc | apply Kept.drewN | apply Kept.drew) | exact HK.out)) (fun k_ e_ => (HO_0.out.1 k_ e_))); replace HO_0 := Aside0.mk (hp_); clear hg hw hp_; have p6 : 0 ≤ (x5_1 : Int) := of_decide_eq_true az; have q6 : (x5_1 : Int) < ((x0_1.length : Int) : Int) := of_decide_eq_true az; obtain ⟨ce6, hcl6, hM6, hcc6, hfr6⟩ := Kd.R_elem HO_0.out z77 (x5_1 : Int) p6 q6; obtain rfl := k77_openM hM6; have hx6_0 : w9.cell? ⟨go5, (x5_1 : Int).toNat * 2, none⟩ = some (.int .i64 ((rd_T77 y127 x5_1).f0)) := hcc6 0 _ rfl; have hx6_1 : w9.cell? ⟨go5, (x5_1 : Int).toNat * 2 + 1, none⟩ = some (.int .i64 ((rd_T77 y127 x5_1).f1)) := hcc6 1 _ rfl; have hf6_0 : w9.frozen? ⟨go5, (x5_1 : Int).toNat * 2, none⟩ = false := hfr6 0; have hf6_1 : w9.frozen? ⟨go5, (x5_1 : Int).toNat * 2 + 1, none⟩ = false := hfr6 1; clear hcl6 hcc6 hfr6 hM6; replace p6 := eq_true p6; replace q6 := eq_true q6; have HX10 := Aside0.mk (show Kd.R k77 77 w9 w0.heap.size (fun k_ => (P0_ k_ ∨ w.heap.size ≤ k_)) (.slice (some ⟨go5, 0, none⟩) x0_1.length co7) y127 from (hr HO_0.out)); obtain ⟨ce10, hcl10, hM10, hcc10, hfr10⟩ := Kd.R_elem HX10.out z77 (x5_1 : Int) (of_decide_eq_true az) (by have h_ : (x5_1 : Int) < ((x0_1.length : Int) : Int) := of_decide_eq_true az; first | exact h_ | (have e_ := (Kd.R_reads' HO_0.out).1; omega) | simpa using h_); obtain rfl := k77_openM hM10; have HP10 := Kd.R_seg HX10.out (x5_1 : Int) (of_decide_eq_true az) (by have h_ : (x5_1 : Int) < ((x0_1.length : Int) : Int) := of_decide_eq_true az; first | exact h_ | (have e_ := (Kd.R_reads' HO_0.out).1; omega) | simpa using h_) (seg := [.int .i64 (wrap64 (x1_1 + 1))]) (j := 1) hcl10 hcc10 (show 2 ≤ 2 from by decide) (x' := (⟨(rd_T77 y127 x5_1).f0, wrap64 (x1_1 + 1)⟩ : S77)) (k77_mkM _ _ _ (⟨(rd_T77 y127 x5_1).f0, wrap64 (x1_1 + 1)⟩ : S77) ) (fun _ hk => hk); have hx10_1 := hcc10 1 _ rfl; (try simp only [show (k77).sz = 2 from rfl, Nat.mul_one, Nat.add_zero] at hx10_1); have hf10_1 := hfr10 1; (try simp only [show (k77).sz = 2 from rfl, Nat.mul_one, Nat.add_zero] at hf10_1); clear hcl10 hcc10 hfr10 hM10) | ((with_reducible refine gate_store (t := 3) (p := 23) rfl ?_); refine store_event (t := 3) (p := 23) (v := ?vo_w11) (w1 := (w9.setCell ⟨go5, (x5_1 : Int).toNat * 2 + 1, none⟩ (.int .i64 (wrap64 (x1_1 + 1))))) ?hg ?ho ?hn ?hr ?_; (case ho => rfl); (case hg => rfl); (case hn => rfl); (case hr => first | (go_simp; done) | (go_simp; rfl)); intro w11 hw; have hg : w9.grownBy w11 (some go5) := (by rw [hw]; exact HP10.2); have hp_ : Kd.R k77 77 w11 w0.heap.size (fun k_ => (P0_ k_ ∨ w.heap.size ≤ k_)) (.slice (some ⟨go5, 0, none⟩) x0_1.length co7) y128 := (by rw [hw, Ny128.out]; exact HP10.1); clear HP10; replace HB := Aside0.mk ((by rw [hw]; exact below_set (HB.out) GB5.out : Below w0.heap.size w0 w11)); replace HK := Aside0.mk (Kept.of_grown (S := (fun k_ => P0_ k_)) hg (by repeat (first | (with_reducible first | exact HK.out | apply Kept.alloc | apply Kept.drewN | apply Kept.drew) | exact HK.out)) (fun k_ e_ => (HO_0.out.1 k_ e_))); replace HO_0 := Aside0.mk (hp_); clear hg hw hp_))
     go_roundg k1
     case measure => have := HK1.out; omega
     case rel => exact ⟨(y128), (wrap64 ((wrap64 (x1_1 + 1)) + 1)), (wrap64 (x5_1 + 1)), rz, rz, H', ⟨by have := HK1.out; omega⟩, ⟨hr HO_0.out⟩, ⟨by repeat (first | (with_reducible first | exact HK.out | apply Kept.alloc | apply Kept.drewN | apply Kept.drew) | exact HK.out)⟩, ⟨bz⟩⟩
    ·rw [if_neg c4] at H
     exact absurd H (by simp)
   ·rw [if_neg c3] at H; have c3b0 := decide_eq_false c3; clear c3; simp only [Option.some.injEq, Prod.mk.injEq] at H; obtain ⟨rfl, rfl⟩ := H; obtain ⟨Ao12, co12, eo12⟩ := Kd.R_slice HO_0.out; subst eo12; go_wp2; go_ret
    exact ⟨ez, hr HO_0.out, bz, by repeat (first | (with_reducible first | exact HK.out | apply Kept.alloc | apply Kept.drewN | apply Kept.drew) | exact HK.out)⟩
set_option maxHeartbeats 8000000 in
set_option maxRecDepth 100000 in
theorem laws_markFeature.calls (k : Nat) (a0_0 : Int) (a0_1 : Int) (a0_2 : Int) (a0_3 : ByteArray) (P0_4_ : Nat → Prop) (u9000_ : Value) (l0_4 : List (S77)) (a1 : Int) (r1 : Int) (r2 : List (S77)) (w0 w : World) (hB : Below w0.heap.size w0 w) (ho0_4 : Kd.R k77 77 w w0.heap.size P0_4_ u9000_ l0_4) (h : laws_markFeature.f k a0_0 a0_1 a0_2 a0_3 l0_4 a1 = some (r1, r2)) :
  Calls Try.prog 13 #[.agg #[.int .i64 a0_0, .int .i64 a0_1, .int .i64 a0_2, .string a0_3, u9000_], .int .i64 a1] w fun e w' => e = .returned (.int .i64 r1) ∧ Kd.R k77 77 w' w0.heap.size (fun k_ => (P0_4_ k_ ∨ w.heap.size ≤ k_)) u9000_ r2 ∧ Below w0.heap.size w0 w' ∧ Kept w w' (fun k_ => P0_4_ k_) := by
 have hu28 := Try.underlying28; have HO0_4 := Aside0.mk (show Kd.R k77 77 w w0.heap.size (fun k_ => (P0_4_ k_ ∨ w.heap.size ≤ k_)) u9000_ l0_4 from Kd.R_mono ho0_4 (fun k_ hk => (.inl hk))); have HK := Aside0.mk (Kept.refl w (fun k_ => P0_4_ k_)); have HW0 := Aside0.mk hB.size; have HB := Aside0.mk hB; clear hB; have H : ((laws_markPointS.f k l0_4 a1).bind fun bt130 => (some (bt130.1, bt130.2))) = some (r1, r2) := h; clear h; replace H := Option.bind_eq_some_iff.mp H; obtain ⟨⟨t130, t131⟩, A30, H⟩ := H; replace H : (some (t130, t131)) = some (r1, r2) := H; have A3 := Aside0.mk A30; clear A30; simp only [Option.some.injEq, Prod.mk.injEq] at H; obtain ⟨rfl, rfl⟩ := H; obtain ⟨Ao4, co4, eo4⟩ := Kd.R_slice HO0_4.out; subst eo4
 go_enter Try.func13, Try.ntmps13; go_wp2_with (first | ((with_reducible refine gt (some 2) rfl ?_); refine bx #[.int .i64 a0_0, .int .i64 a0_1, .int .i64 a0_2, .string a0_3, .slice Ao4 l0_4.length co4] 28 ?_; intro gb129 hg w5 hbox hb; replace HO0_4 := Aside0.mk (rbz HO0_4 hb); have BK129 := Aside0.mk (hbox); have GW129 := Aside0.mk ((by rw [hg]; exact (by first | exact HK.out.1 | exact (show Kept w _ (fun k_ => P0_4_ k_) from by repeat (first | (with_reducible first | exact HK.out | apply Kept.alloc | apply Kept.drewN | apply Kept.drew) | exact HK.out)).1) : w.heap.size ≤ gb129)); replace HK := Aside0.mk (Kept.below (S := (fun k_ => P0_4_ k_)) (by repeat (first | (with_reducible first | exact HK.out | apply Kept.alloc | apply Kept.drewN | apply Kept.drew) | exact HK.out)) hb); have GE129 := Aside0.mk (gez HB hg); replace HB := Aside0.mk (below_step bz hb); clear hb hbox hg; obtain ⟨hcz6_0, hcz6_1, hcz6_2, hcz6_3, hcz6_4, hfz6_0, hfz6_1, hfz6_2, hfz6_3, hfz6_4⟩ := cells5 BK129) | ((with_reducible refine gt (some 8) rfl ?_); refine gc Try.func47 (laws_markPointS.calls k (fun k_ => some k_ = (.slice Ao4 l0_4.length co4 : Value).ownBlock) (.slice Ao4 l0_4.length co4) l0_4 a1 t130 t131 w0 _ (by repeat (first | (with_reducible first | exact HB.out | apply below_alloc | apply pw_below_drewN | apply below_drew1 | refine below_set ?_ GE129.out) | exact HB.out)) (Kd.R_tight rfl HO0_4.out) A3.out) ?_; rintro e w7 ⟨rfl, hy0, hb, hkp⟩; refine ⟨_, rfl, ?_⟩; replace BK129 := Aside0.mk (blk_kept (kz BK129) hkp (fun hs_ => (fun e_ => (Kd.R_ne HO0_4.out BK129.out (by decide)) e_) hs_)); replace HK := Aside0.mk (Kept.then_ (S := (fun k_ => P0_4_ k_)) (by repeat (first | (with_reducible first | exact HK.out | apply Kept.alloc | apply Kept.drewN | apply Kept.drew | refine Kept.setCell ?_ (.inr GW129.out) _) | exact HK.out)) hkp (fun k_ hs_ => (fun e_ => (HO0_4.out.1 k_ e_.symm)) hs_)); replace HO0_4 := Aside0.mk (Kd.R_reok rfl hy0 (fun k_ e_ => HO0_4.out.1 k_ e_)); replace HB := Aside0.mk (hb); (try clear hb); (try clear hkp); (try clear hy0)))
 go_ret
 exact ⟨ez, hr HO0_4.out, bzs, by repeat (first | (with_reducible first | exact HK.out | apply Kept.alloc | apply Kept.drewN | apply Kept.drew | refine Kept.setCell ?_ (.inr GW129.out) _) | exact HK.out)⟩
theorem spec_l1In.any (a0 : Int) (a1 : Int) (a2 : Int) (w : World) :
    Calls Try.prog 67 #[.int .i64 a0, .int .i64 a1, .int .i64 a2] w fun e w' => e = .returned (.bool (inR a0 a1 a2)) ∧ w = w' := by
  go_enter Try.func67, Try.ntmps67; go_wp2
  all_goals (go_ret; refine ⟨?_, rfl⟩; congr 2; first | (simp [inR, *]; done) | (simp [inR, *] <;> omega) | (unfold inR; repeat' split <;> first | rfl | omega))
theorem spec_l1In.calls (a0 : Int) (a1 : Int) (a2 : Int) (r : Bool) (w : World) (h : spec_l1In.f a0 a1 a2 = some r) :
    Calls Try.prog 67 #[.int .i64 a0, .int .i64 a1, .int .i64 a2] w fun e w' => e = .returned (.bool (r)) ∧ ∃ nd_ : Nat, w = w' := by
  obtain rfl := Option.some.inj h
  exact (spec_l1In.any a0 a1 a2 w).mono fun e w' ⟨he, hw⟩ => ⟨he, 0, hw⟩
theorem spec_IsPoint.any (a0_0 : Int) (a0_1 : Int) (w : World) :
    Calls Try.prog 71 #[.agg #[.int .i64 a0_0, .int .i64 a0_1]] w fun e w' => e = .returned (.bool (isPt a0_0 a0_1)) ∧ Below w.heap.size w w' := by
  have HB := Aside0.mk (Below.refl w.heap.size w)
  go_enter Try.func71, Try.ntmps71; go_wp2_with (first
    | (go_at_call 67; refine (spec_l1In.any _ _ _ _).mono ?_; rintro e w1 ⟨rfl, rfl⟩))
  all_goals (go_ret; refine ⟨?_, by repeat (first | (with_reducible first | exact HB.out | apply below_alloc | apply below_drew1 | apply pw_below_drewN) | exact HB.out)⟩; clear HB; congr 2; simp [isPt, *])
theorem spec_IsPoint.calls (a0_0 : Int) (a0_1 : Int) (r : Bool) (w : World) (h : spec_IsPoint.f a0_0 a0_1 = some r) :
    Calls Try.prog 71 #[.agg #[.int .i64 a0_0, .int .i64 a0_1]] w fun e w' => e = .returned (.bool (r)) ∧ Below w.heap.size w w' := by
  obtain rfl := Option.some.inj h
  exact (spec_IsPoint.any a0_0 a0_1 w).mono fun e w' ⟨he, hw⟩ => ⟨he, hw⟩
theorem spec_IsLine.mono_l : ∀ k, (∀ y0 y1, LeO (spec_IsLine.l0 k y0 y1) (spec_IsLine.l0 (k + 1) y0 y1))
 | 0 => fun _ _ r h => by simp [spec_IsLine.l0] at h
 | k + 1 => by
  have ih0 := spec_IsLine.mono_l k
  ·intro y0 y1
   unfold spec_IsLine.l0
   repeat' first | (with_reducible first | exact ih0 _ _ | exact LeO.refl _ | exact LeO.none _ | refine LeO.ite ?_ ?_ | refine LeO.bind ?_ (fun _ => ?_)) | exact ih0 _ _ | exact LeO.none _ | refine LeO.ite ?_ ?_ | refine LeO.bind ?_ (fun _ => ?_)
theorem spec_IsLine.mono : ∀ a0 k, LeO (spec_IsLine.f k a0) (spec_IsLine.f (k + 1) a0) := by
 intro a0 k; have ih0 := spec_IsLine.mono_l k
 unfold spec_IsLine.f
 repeat' first | (with_reducible first | exact ih0 _ _ | exact LeO.refl _ | exact LeO.none _ | refine LeO.ite ?_ ?_ | refine LeO.bind ?_ (fun _ => ?_)) | exact ih0 _ _ | exact LeO.none _ | refine LeO.ite ?_ ?_ | refine LeO.bind ?_ (fun _ => ?_)
theorem spec_DropPoint.mono_l : ∀ k, (∀ y0 y1 y2, LeO (spec_DropPoint.j0 k y0 y1 y2) (spec_DropPoint.j0 (k + 1) y0 y1 y2))
 | 0 => fun _ _ _ r h => by simp [spec_DropPoint.j0] at h
 | k + 1 => by
  have ih0 := spec_DropPoint.mono_l k
  ·intro y0 y1 y2
   unfold spec_DropPoint.j0
   repeat' first | (with_reducible first | exact ih0 _ _ _ | exact spec_IsLine.mono _ _ | exact LeO.refl _ | exact LeO.none _ | refine LeO.ite ?_ ?_ | refine LeO.bind ?_ (fun _ => ?_)) | exact ih0 _ _ _ | exact spec_IsLine.mono _ _ | exact LeO.none _ | refine LeO.ite ?_ ?_ | refine LeO.bind ?_ (fun _ => ?_)
theorem spec_DropPoint.mono : ∀ a0 a1 k, LeO (spec_DropPoint.f k a0 a1) (spec_DropPoint.f (k + 1) a0 a1) := by
 intro a0 a1 k; have ih0 := spec_DropPoint.mono_l k
 unfold spec_DropPoint.f
 repeat' first | (with_reducible first | exact ih0 _ _ _ | exact spec_IsLine.mono _ _ | exact LeO.refl _ | exact LeO.none _ | refine LeO.ite ?_ ?_ | refine LeO.bind ?_ (fun _ => ?_)) | exact ih0 _ _ _ | exact spec_IsLine.mono _ _ | exact LeO.none _ | refine LeO.ite ?_ ?_ | refine LeO.bind ?_ (fun _ => ?_)
def spec_DropPoint.T3 : Bool × List (List Nat × List Nat) := (true, [([], []), ([], []), ([], []), ([1, 2], [1, 2]), ([0, 3], [0, 3]), ([], []), ([], []), ([6], [6]), ([5, 7], [5, 7]), ([4, 8, 4], [4, 8]), ([9, 9, 0, 1, 2, 3, 4, 5, 6, 7, 8, 9], [9])])
def spec_DropPoint.B3 : List Nat := [0, 0, 0, 6, 15, 0, 0, 64, 224, 511, 1023]
theorem spec_DropPoint.tab3 : rtab .any (opsOf Try.f38 3) = spec_DropPoint.T3 := by kernel_rfl
theorem spec_DropPoint.bits3 : waitsOk spec_DropPoint.T3.2 spec_DropPoint.B3 = true := by kernel_rfl
theorem spec_Max.any (a0 : Int) (a1 : Int) (w : World) :
    Calls Try.prog 86 #[.int .i64 a0, .int .i64 a1] w fun e w' => e = .returned (.int .i64 (mx a0 a1)) ∧ w = w' := by
  go_enter Try.func86, Try.ntmps86; go_wp2
  all_goals (go_ret; refine ⟨?_, rfl⟩; congr 2; unfold mx; repeat' split <;> first | rfl | omega)
theorem spec_Max.calls (a0 : Int) (a1 : Int) (r : Int) (w : World) (h : spec_Max.f a0 a1 = some r) :
    Calls Try.prog 86 #[.int .i64 a0, .int .i64 a1] w fun e w' => e = .returned (.int .i64 (r)) ∧ ∃ nd_ : Nat, w = w' := by
  obtain rfl := Option.some.inj h
  exact (spec_Max.any a0 a1 w).mono fun e w' ⟨he, hw⟩ => ⟨he, 0, hw⟩
theorem spec_IsSegment.any (a0_0 : Int) (a0_1 : Int) (a0_2 : Int) (a0_3 : Int) (w : World) :
    Calls Try.prog 101 #[.agg #[.int .i64 a0_0, .int .i64 a0_1, .int .i64 a0_2, .int .i64 a0_3]] w fun e w' => e = .returned (.bool (isSeg a0_0 a0_1 a0_2 a0_3)) ∧ Below w.heap.size w w' := by
  have HB := Aside0.mk (Below.refl w.heap.size w)
  go_enter Try.func101, Try.ntmps101; go_wp2_with (first
    | (go_at_call 71; refine (spec_IsPoint.any _ _ _).mono ?_; rintro e w1 ⟨rfl, hb⟩; have n0 := Aside0.mk (below_step (by repeat (first | (with_reducible first | exact HB.out | apply below_alloc | apply below_drew1 | apply pw_below_drewN) | exact HB.out)) hb); clear HB; have HB := n0; clear n0; obtain ⟨hc, hf⟩ := bcell hb; have hz0 : w.heap.size < w1.heap.size := (by have := hb.size; (try simp at this); omega); clear hb))
  all_goals (go_ret; refine ⟨?_, by repeat (first | (with_reducible first | exact HB.out | apply below_alloc | apply below_drew1 | apply pw_below_drewN) | exact HB.out)⟩; clear HB; congr 2; unfold isSeg; first | (simp_all; done) | (simp_all; rfl))
theorem spec_IsSegment.calls (a0_0 : Int) (a0_1 : Int) (a0_2 : Int) (a0_3 : Int) (r : Bool) (w : World) (h : spec_IsSegment.f a0_0 a0_1 a0_2 a0_3 = some r) :
    Calls Try.prog 101 #[.agg #[.int .i64 a0_0, .int .i64 a0_1, .int .i64 a0_2, .int .i64 a0_3]] w fun e w' => e = .returned (.bool (r)) ∧ Below w.heap.size w w' := by
  obtain rfl := Option.some.inj h
  exact (spec_IsSegment.any a0_0 a0_1 a0_2 a0_3 w).mono fun e w' ⟨he, hw⟩ => ⟨he, hw⟩
theorem spec_Min.any (a0 : Int) (a1 : Int) (w : World) :
    Calls Try.prog 112 #[.int .i64 a0, .int .i64 a1] w fun e w' => e = .returned (.int .i64 (mn a0 a1)) ∧ w = w' := by
  go_enter Try.func112, Try.ntmps112; go_wp2
  all_goals (go_ret; refine ⟨?_, rfl⟩; congr 2; unfold mn; repeat' split <;> first | rfl | omega)
theorem spec_l4Cross.any (a0_0 : Int) (a0_1 : Int) (a1_0 : Int) (a1_1 : Int) (a2_0 : Int) (a2_1 : Int) (w : World) :
    Calls Try.prog 115 #[.agg #[.int .i64 a0_0, .int .i64 a0_1], .agg #[.int .i64 a1_0, .int .i64 a1_1], .agg #[.int .i64 a2_0, .int .i64 a2_1]] w fun e w' => e = .returned (.int .i64 (crossI a0_0 a0_1 a1_0 a1_1 a2_0 a2_1)) ∧ Below w.heap.size w w' := by
  have HB := Aside0.mk (Below.refl w.heap.size w)
  go_enter Try.func115, Try.ntmps115; go_wp2
  all_goals (go_ret; refine ⟨?_, by repeat (first | (with_reducible first | exact HB.out | apply below_alloc | apply below_drew1 | apply pw_below_drewN) | exact HB.out)⟩; clear HB; rfl)
theorem spec_l4Cross.calls (a0_0 : Int) (a0_1 : Int) (a1_0 : Int) (a1_1 : Int) (a2_0 : Int) (a2_1 : Int) (r : Int) (w : World) (h : spec_l4Cross.f a0_0 a0_1 a1_0 a1_1 a2_0 a2_1 = some r) :
    Calls Try.prog 115 #[.agg #[.int .i64 a0_0, .int .i64 a0_1], .agg #[.int .i64 a1_0, .int .i64 a1_1], .agg #[.int .i64 a2_0, .int .i64 a2_1]] w fun e w' => e = .returned (.int .i64 (r)) ∧ Below w.heap.size w w' := by
  obtain rfl := Option.some.inj h
  exact (spec_l4Cross.any a0_0 a0_1 a1_0 a1_1 a2_0 a2_1 w).mono fun e w' ⟨he, hw⟩ => ⟨he, hw⟩
set_option maxHeartbeats 8000000 in
theorem spec_IsOn.wlk (a b c d e f x : Int) (s p i j : Bool) (hs : isSeg a b c d = s) (hp : isPt e f = p) (hx : crossI a b c d e f = x) (hi : inR e (mn a c) (mx a c) = i) (hj : inR f (mn b d) (mx b d) = j) (w : World) :
    Calls Try.prog 127 #[.agg #[.int .i64 a, .int .i64 b, .int .i64 c, .int .i64 d], .agg #[.int .i64 e, .int .i64 f]] w fun e w' => e = .returned (.bool (s && p && decide (x = 0) && i && j)) ∧ Below w.heap.size w w' := by
  have HB := Aside0.mk (Below.refl w.heap.size w); have hC : s = false ∨ (s = true ∧ p = false) ∨ (s = true ∧ p = true ∧ x ≠ 0) ∨ (s = true ∧ p = true ∧ x = 0 ∧ i = false) ∨ (s = true ∧ p = true ∧ x = 0 ∧ i = true) := by
    by_cases x = 0 <;> cases s <;> cases p <;> cases i <;> simp [*]
  go_enter Try.func127, Try.ntmps127; go_wp2; have hS := Aside0.mk (two1 w (.cells #[.int .i64 a, .int .i64 b, .int .i64 c, .int .i64 d] 95) (.cells #[.int .i64 e, .int .i64 f] 77)); have hT := Aside0.mk (two2 w (.cells #[.int .i64 a, .int .i64 b, .int .i64 c, .int .i64 d] 95) (.cells #[.int .i64 e, .int .i64 f] 77)); refine wq_region (by kernel_rfl) (by kernel_rfl) ?_; obtain ⟨m0, m1, m2, m3⟩ := q4 hS.out; obtain ⟨l0, l1⟩ := q2 hT.out
  rcases hC with rfl | ⟨rfl, rfl⟩ | ⟨rfl, rfl, hx0⟩ | ⟨rfl, rfl, rfl, rfl⟩ | ⟨rfl, rfl, rfl, rfl⟩
  case' inr.inr.inl =>
    have z1 : (x == 0) = false := by simpa using hx0
    have z2 : decide (x = 0) = false := by simpa using hx0
    have z3 : (x = 0) = False := eq_false hx0; clear hx0
  all_goals
    iterate 54 (refine wq_step (fun K hK => ?_); go_simp; first | (refine hK _ ?_; clear hK K) | (apply Exists.intro; refine ⟨fun _ => ?_, hK _ ?_⟩; (first | exact qc (fun W => spec_IsSegment.any _ _ _ _ W) _ _ | exact qc (fun W => spec_IsPoint.any _ _ W) _ _ | exact qc (fun W => spec_l4Cross.any _ _ _ _ _ _ W) _ _ | exact qs (fun W => spec_Min.any _ _ W) _ _ | exact qs (fun W => spec_Max.any _ _ W) _ _ | exact qs (fun W => spec_l1In.any _ _ _ W) _ _); clear hK K))
    refine wq_nil ?_; intro w1 hb; replace HB := Aside0.mk (below_step (below_alloc (below_alloc HB.out _) _) hb); clear m0 m1 m2 m3 l0 l1 hS hT hb; go_wp2; go_ret
    exact ⟨by first | rfl | (simp; done) | (simp [z2]; done), HB.out⟩
theorem spec_IsOn.any (a b c d e f : Int) (w : World) :
    Calls Try.prog 127 #[.agg #[.int .i64 a, .int .i64 b, .int .i64 c, .int .i64 d], .agg #[.int .i64 e, .int .i64 f]] w fun e_ w' => e_ = .returned (.bool (isOnI a b c d e f)) ∧ Below w.heap.size w w' := by
  refine (spec_IsOn.wlk a b c d e f _ _ _ _ _ rfl rfl rfl rfl rfl w).mono ?_; rintro e_ w' ⟨rfl, hb⟩; refine ⟨?_, hb⟩
  congr 2
  unfold isOnI
  cases h1 : isSeg a b c d
  · rfl
  · cases h2 : isPt e f
    · rfl
    · have h3 := h1
      unfold isSeg at h3
      simp only [Bool.and_eq_true] at h3; have e1 : sideI a b c d e f = cmpI (crossI a b c d e f) 0 := by unfold sideI; rw [h3.1.1, h3.1.2, h2]; rfl
      rw [e1, decide_eq_decide.mpr (by rw [cmp_zero] : cmpI (crossI a b c d e f) 0 = 0 ↔ crossI a b c d e f = 0)]
theorem spec_IsOn.calls (a0_0 : Int) (a0_1 : Int) (a0_2 : Int) (a0_3 : Int) (a1_0 : Int) (a1_1 : Int) (r : Bool) (w : World) (h : spec_IsOn.f a0_0 a0_1 a0_2 a0_3 a1_0 a1_1 = some r) :
    Calls Try.prog 127 #[.agg #[.int .i64 a0_0, .int .i64 a0_1, .int .i64 a0_2, .int .i64 a0_3], .agg #[.int .i64 a1_0, .int .i64 a1_1]] w fun e w' => e = .returned (.bool (r)) ∧ Below w.heap.size w w' := by
  obtain rfl := Option.some.inj h
  exact spec_IsOn.any a0_0 a0_1 a0_2 a0_3 a1_0 a1_1 w
set_option maxHeartbeats 4000000 in
theorem spec_SideOf.any (a0_0 : Int) (a0_1 : Int) (a1_0 : Int) (a1_1 : Int) (a2_0 : Int) (a2_1 : Int) (w : World) :
    Calls Try.prog 114 #[.agg #[.int .i64 a0_0, .int .i64 a0_1], .agg #[.int .i64 a1_0, .int .i64 a1_1], .agg #[.int .i64 a2_0, .int .i64 a2_1]] w fun e w' => e = .returned (.int .i64 (sideI a0_0 a0_1 a1_0 a1_1 a2_0 a2_1)) ∧ Below w.heap.size w w' := by
  have HB := Aside0.mk (Below.refl w.heap.size w)
  go_enter Try.func114, Try.ntmps114; go_wp2_with (first
    | (go_at_call 71; refine (spec_IsPoint.any _ _ _).mono ?_; rintro e w1 ⟨rfl, hb⟩; have n0 := Aside0.mk (below_step (by repeat (first | (with_reducible first | exact HB.out | apply below_alloc | apply below_drew1 | apply pw_below_drewN) | exact HB.out)) hb); clear HB; have HB := n0; clear n0; obtain ⟨hc, hf⟩ := bcell hb; have hz0 : w.heap.size < w1.heap.size := (by have := hb.size; (try simp at this); omega); have hz1 : w.heap.size + 1 < w1.heap.size := (by have := hb.size; (try simp at this); omega); have hz2 : w.heap.size + 1 + 1 < w1.heap.size := (by have := hb.size; (try simp at this); omega); clear hb)
    | (go_at_call 115; refine (spec_l4Cross.any _ _ _ _ _ _ _).mono ?_; rintro e w1 ⟨rfl, hb⟩; have n0 := Aside0.mk (below_step (by repeat (first | (with_reducible first | exact HB.out | apply below_alloc | apply below_drew1 | apply pw_below_drewN) | exact HB.out)) hb); clear HB; have HB := n0; clear n0; obtain ⟨hc, hf⟩ := bcell hb; have hz0 : w.heap.size < w1.heap.size := (by have := hb.size; (try simp at this); omega); have hz1 : w.heap.size + 1 < w1.heap.size := (by have := hb.size; (try simp at this); omega); have hz2 : w.heap.size + 1 + 1 < w1.heap.size := (by have := hb.size; (try simp at this); omega); clear hb))
  all_goals (go_ret; refine ⟨?_, by repeat (first | (with_reducible first | exact HB.out | apply below_alloc | apply below_drew1 | apply pw_below_drewN) | exact HB.out)⟩; clear HB; congr 2; unfold sideI cmpI; (repeat' split) <;> simp_all <;> omega)
theorem spec_HowMeet.no1 (a b c d e f g h : Int) (hs : isSeg a b c d = false) (w : World) : Calls Try.prog 87 #[.agg #[.int .i64 a, .int .i64 b, .int .i64 c, .int .i64 d], .agg #[.int .i64 e, .int .i64 f, .int .i64 g, .int .i64 h]] w fun e w' => e = .returned (.int .i64 0) ∧ Below w.heap.size w w' := by
  have ht : True := trivial; have HB := Aside0.mk (Below.refl w.heap.size w)
  go_enter Try.func87, Try.ntmps87; go_wp2_with (first | (go_at_call 101; refine (spec_IsSegment.any _ _ _ _ _).mono ?_; rintro e w1 ⟨rfl, hb⟩; simp only [hs, ht]; have n0 := Aside0.mk (below_step (by repeat (first | (with_reducible first | exact HB.out | apply below_alloc | apply below_drew1 | apply pw_below_drewN) | exact HB.out)) hb); clear HB; have HB := n0; clear n0; (first | (have n1 := Aside0.mk (blk_below hS.out hb); have n2 := Aside0.mk (blk_below hT.out hb); clear hS hT; have hS := n1; have hT := n2; clear n1 n2) | (have hS := Aside0.mk (blk_below (two1 w _ _) hb); have hT := Aside0.mk (blk_below (two2 w _ _) hb))); clear hb; obtain ⟨k0, k1, k2, k3⟩ := c4 hS.out; obtain ⟨j0, j1, j2, j3⟩ := c4 hT.out)); go_ret
  exact ⟨rfl, HB.out⟩
theorem spec_HowMeet.no2 (a b c d e f g h : Int) (hs : isSeg a b c d = true) (ht : isSeg e f g h = false) (w : World) : Calls Try.prog 87 #[.agg #[.int .i64 a, .int .i64 b, .int .i64 c, .int .i64 d], .agg #[.int .i64 e, .int .i64 f, .int .i64 g, .int .i64 h]] w fun e w' => e = .returned (.int .i64 0) ∧ Below w.heap.size w w' := by
  have HB := Aside0.mk (Below.refl w.heap.size w)
  go_enter Try.func87, Try.ntmps87; go_wp2_with (first | (go_at_call 101; refine (spec_IsSegment.any _ _ _ _ _).mono ?_; rintro e w1 ⟨rfl, hb⟩; simp only [hs, ht]; have n0 := Aside0.mk (below_step (by repeat (first | (with_reducible first | exact HB.out | apply below_alloc | apply below_drew1 | apply pw_below_drewN) | exact HB.out)) hb); clear HB; have HB := n0; clear n0; (first | (have n1 := Aside0.mk (blk_below hS.out hb); have n2 := Aside0.mk (blk_below hT.out hb); clear hS hT; have hS := n1; have hT := n2; clear n1 n2) | (have hS := Aside0.mk (blk_below (two1 w _ _) hb); have hT := Aside0.mk (blk_below (two2 w _ _) hb))); clear hb; obtain ⟨k0, k1, k2, k3⟩ := c4 hS.out; obtain ⟨j0, j1, j2, j3⟩ := c4 hT.out)); go_ret
  exact ⟨rfl, HB.out⟩
set_option maxHeartbeats 8000000 in
set_option maxRecDepth 100000 in
theorem spec_HowMeet.wlk (a b c d e f g h x1 x2 x3 x4 y z sh : Int) (z1 z2 z3 z4 : Bool) (hs : isSeg a b c d = true) (ht : isSeg e f g h = true) (hx1 : sideI a b c d e f = x1) (hx2 : sideI a b c d g h = x2) (hx3 : sideI e f g h a b = x3) (hx4 : sideI e f g h c d = x4)
    (f1 : IntKind.i64.wrap (x1 * x2) = y) (f2 : IntKind.i64.wrap (x3 * x4) = z) (c1 : decide (mx a c < mn e g) = z1) (c2 : decide (mx e g < mn a c) = z2) (c3 : decide (mx b d < mn f h) = z3) (c4_ : decide (mx f h < mn b d) = z4) (hy : y = -1 ∨ y = 0 ∨ y = 1) (hz : z = -1 ∨ z = 0 ∨ z = 1)
    (hsh : ∀ W : World, Calls Try.prog 113 #[.agg #[.int .i64 a, .int .i64 b, .int .i64 c, .int .i64 d], .agg #[.int .i64 e, .int .i64 f, .int .i64 g, .int .i64 h]] W fun e w' => e = .returned (.int .i64 sh) ∧ Below W.heap.size W w') (w : World) :
    Calls Try.prog 87 #[.agg #[.int .i64 a, .int .i64 b, .int .i64 c, .int .i64 d], .agg #[.int .i64 e, .int .i64 f, .int .i64 g, .int .i64 h]] w fun e w' => e = .returned (.int .i64 (if (z1 || z2 || z3 || z4) = true then 0 else if sh = 0 then (if y < 0 ∧ z < 0 then 2 else 0) else if sh = 1 then 1 else 3)) ∧ Below w.heap.size w w' := by
  have hQ : (y = -1 ∧ z = -1) ∨ y = 0 ∨ y = 1 ∨ (y = -1 ∧ z = 0) ∨ (y = -1 ∧ z = 1) := by omega
  have hZ : z1 = true ∨ (z1 = false ∧ z2 = true) ∨ (z1 = false ∧ z2 = false ∧ z3 = true) ∨ (z1 = false ∧ z2 = false ∧ z3 = false ∧ z4 = true) ∨ (z1 = false ∧ z2 = false ∧ z3 = false ∧ z4 = false) := by cases z1 <;> cases z2 <;> cases z3 <;> cases z4 <;> simp
  have hN : sh = 0 ∨ sh = 1 ∨ ((sh == 0) = false ∧ (sh == 1) = false ∧ decide (sh = 0) = false ∧ decide (sh = 1) = false ∧ (sh = 0) = False ∧ (sh = 1) = False) := by
    by_cases h0 : sh = 0
    · exact .inl h0
    · by_cases h1 : sh = 1
      · exact .inr (.inl h1)
      · exact .inr (.inr (by simp [h0, h1]))
  clear hy hz; have r1 : (mx a c < mn e g) = (z1 = true) := by rw [← c1]; simp
  have r2 : (mx e g < mn a c) = (z2 = true) := by rw [← c2]; simp
  have r3 : (mx b d < mn f h) = (z3 = true) := by rw [← c3]; simp
  have r4 : (mx f h < mn b d) = (z4 = true) := by rw [← c4_]; simp
  have HB := Aside0.mk (Below.refl w.heap.size w)
  go_enter Try.func87, Try.ntmps87; go_wp2_with (first | (go_at_call 101; refine (spec_IsSegment.any _ _ _ _ _).mono ?_; rintro e w1 ⟨rfl, hb⟩; simp only [hs, ht]; have n0 := Aside0.mk (below_step (by repeat (first | (with_reducible first | exact HB.out | apply below_alloc | apply below_drew1 | apply pw_below_drewN) | exact HB.out)) hb); clear HB; have HB := n0; clear n0; (first | (have n1 := Aside0.mk (blk_below hS.out hb); have n2 := Aside0.mk (blk_below hT.out hb); clear hS hT; have hS := n1; have hT := n2; clear n1 n2) | (have hS := Aside0.mk (blk_below (two1 w _ _) hb); have hT := Aside0.mk (blk_below (two2 w _ _) hb))); clear hb; obtain ⟨k0, k1, k2, k3⟩ := c4 hS.out; obtain ⟨j0, j1, j2, j3⟩ := c4 hT.out))
  rcases hZ with rfl | ⟨rfl, rfl⟩ | ⟨rfl, rfl, rfl⟩ | ⟨rfl, rfl, rfl, rfl⟩ | ⟨rfl, rfl, rfl, rfl⟩
  all_goals
    simp only [Bool.false_eq_true] at r1 r2 r3 r4; refine wq_region (by kernel_rfl) (by kernel_rfl) ?_; obtain ⟨m0, m1, m2, m3⟩ := q4 hS.out; obtain ⟨l0, l1, l2, l3⟩ := q4 hT.out
    iterate 66 (refine wq_step (fun K hK => ?_); go_simp; first | (refine hK _ ?_; clear hK K) | (apply Exists.intro; refine ⟨fun _ => ?_, hK _ ?_⟩; (first | exact qs (fun W => spec_Min.any _ _ W) _ _ | exact qs (fun W => spec_Max.any _ _ W) _ _); clear hK K))
    refine wq_nil ?_; intro w4 hb; clear m0 m1 m2 m3 l0 l1 l2 l3 k0 k1 k2 k3 j0 j1 j2 j3; have n0 := Aside0.mk (below_step HB.out hb); have n1 := Aside0.mk (blk_below hS.out hb); have n2 := Aside0.mk (blk_below hT.out hb); clear HB hS hT hb; have HB := n0; have hS := n1; have hT := n2; clear n0 n1 n2; obtain ⟨k0, k1, k2, k3⟩ := c4 hS.out; obtain ⟨j0, j1, j2, j3⟩ := c4 hT.out; clear c1 c2 c3 c4_ r1 r2 r3 r4
  · (go_wp2; go_ret; exact ⟨rfl, HB.out⟩)
  · (go_wp2; go_ret; exact ⟨rfl, HB.out⟩)
  · (go_wp2; go_ret; exact ⟨rfl, HB.out⟩)
  · (go_wp2; go_ret; exact ⟨rfl, HB.out⟩)
  rcases hN with rfl | rfl | ⟨v1, v2, v3, v4, v5, v6⟩
  · go_wp2_with (first | (go_at_call 113; refine (hsh _).mono ?_; rintro e w1 ⟨rfl, hb⟩; clear k0 k1 k2 k3 j0 j1 j2 j3; have n0 := Aside0.mk (below_step HB.out hb); have n1 := Aside0.mk (blk_below hS.out hb); have n2 := Aside0.mk (blk_below hT.out hb); clear HB hS hT hb; have HB := n0; have hS := n1; have hT := n2; clear n0 n1 n2; obtain ⟨k0, k1, k2, k3⟩ := c4 hS.out; obtain ⟨j0, j1, j2, j3⟩ := c4 hT.out)); clear hsh
    rcases hQ with ⟨rfl, rfl⟩ | rfl | rfl | ⟨rfl, rfl⟩ | ⟨rfl, rfl⟩
    all_goals
      refine wq_region (by kernel_rfl) (by kernel_rfl) ?_; obtain ⟨m0, m1, m2, m3⟩ := q4 hS.out; obtain ⟨l0, l1, l2, l3⟩ := q4 hT.out
      iterate 34 (refine wq_step (fun K hK => ?_); go_simp; first | (refine hK _ ?_; clear hK K) | (apply Exists.intro; refine ⟨fun _ => ?_, hK _ ?_⟩; (exact qc (fun W => spec_SideOf.any _ _ _ _ _ _ W) _ _); clear hK K))
      refine wq_nil ?_; intro w6 hb; clear m0 m1 m2 m3 l0 l1 l2 l3 k0 k1 k2 k3 j0 j1 j2 j3; have n0 := Aside0.mk (below_step HB.out hb); have n1 := Aside0.mk (blk_below hS.out hb); have n2 := Aside0.mk (blk_below hT.out hb); clear HB hS hT hb; have HB := n0; have hS := n1; have hT := n2; clear n0 n1 n2; obtain ⟨k0, k1, k2, k3⟩ := c4 hS.out; obtain ⟨j0, j1, j2, j3⟩ := c4 hT.out; go_wp2; go_ret
      exact ⟨rfl, HB.out⟩
  · clear hQ; go_wp2_with (first | (go_at_call 113; refine (hsh _).mono ?_; rintro e w1 ⟨rfl, hb⟩; clear k0 k1 k2 k3 j0 j1 j2 j3; have n0 := Aside0.mk (below_step HB.out hb); have n1 := Aside0.mk (blk_below hS.out hb); have n2 := Aside0.mk (blk_below hT.out hb); clear HB hS hT hb; have HB := n0; have hS := n1; have hT := n2; clear n0 n1 n2; obtain ⟨k0, k1, k2, k3⟩ := c4 hS.out; obtain ⟨j0, j1, j2, j3⟩ := c4 hT.out)); go_ret
    exact ⟨rfl, HB.out⟩
  · clear hQ; go_wp2_with (first | (go_at_call 113; refine (hsh _).mono ?_; rintro e w1 ⟨rfl, hb⟩; clear k0 k1 k2 k3 j0 j1 j2 j3; have n0 := Aside0.mk (below_step HB.out hb); have n1 := Aside0.mk (blk_below hS.out hb); have n2 := Aside0.mk (blk_below hT.out hb); clear HB hS hT hb; have HB := n0; have hS := n1; have hT := n2; clear n0 n1 n2; obtain ⟨k0, k1, k2, k3⟩ := c4 hS.out; obtain ⟨j0, j1, j2, j3⟩ := c4 hT.out)); go_ret
    exact ⟨by simp [v5, v6], HB.out⟩
theorem spec_l7Segments.mono_l : ∀ k, (∀ y0 y1 y2, LeO (spec_l7Segments.l0 k y0 y1 y2) (spec_l7Segments.l0 (k + 1) y0 y1 y2))
 | 0 => fun _ _ _ r h => by simp [spec_l7Segments.l0] at h
 | k + 1 => by
  have ih0 := spec_l7Segments.mono_l k
  ·intro y0 y1 y2
   unfold spec_l7Segments.l0
   repeat' first | (with_reducible first | exact ih0 _ _ _ | exact LeO.refl _ | exact LeO.none _ | refine LeO.ite ?_ ?_ | refine LeO.bind ?_ (fun _ => ?_)) | exact ih0 _ _ _ | exact LeO.none _ | refine LeO.ite ?_ ?_ | refine LeO.bind ?_ (fun _ => ?_)
theorem spec_l7Segments.mono : ∀ a0 k, LeO (spec_l7Segments.f k a0) (spec_l7Segments.f (k + 1) a0) := by
 intro a0 k; have ih0 := spec_l7Segments.mono_l k
 unfold spec_l7Segments.f
 repeat' first | (with_reducible first | exact ih0 _ _ _ | exact LeO.refl _ | exact LeO.none _ | refine LeO.ite ?_ ?_ | refine LeO.bind ?_ (fun _ => ?_)) | exact ih0 _ _ _ | exact LeO.none _ | refine LeO.ite ?_ ?_ | refine LeO.bind ?_ (fun _ => ?_)
theorem spec_IsRing.mono_l : ∀ k, (∀ y0 y1, LeO (spec_IsRing.l0 k y0 y1) (spec_IsRing.l0 (k + 1) y0 y1)) ∧ (∀ y0 y1 y2, LeO (spec_IsRing.l1 k y0 y1 y2) (spec_IsRing.l1 (k + 1) y0 y1 y2)) ∧ (∀ y0 y1 y2 y3 y4, LeO (spec_IsRing.j2 k y0 y1 y2 y3 y4) (spec_IsRing.j2 (k + 1) y0 y1 y2 y3 y4))
 | 0 => ⟨fun _ _ r h => by simp [spec_IsRing.l0] at h, fun _ _ _ r h => by simp [spec_IsRing.l1] at h, fun _ _ _ _ _ r h => by simp [spec_IsRing.j2] at h⟩
 | k + 1 => by
  obtain ⟨ih0, ih1, ih2⟩ := spec_IsRing.mono_l k; refine ⟨?_, ?_, ?_⟩
  ·intro y0 y1
   unfold spec_IsRing.l0
   repeat' first | (with_reducible first | exact ih0 _ _ | exact ih1 _ _ _ | exact ih2 _ _ _ _ _ | exact spec_l7Segments.mono _ _ | exact LeO.refl _ | exact LeO.none _ | refine LeO.ite ?_ ?_ | refine LeO.bind ?_ (fun _ => ?_)) | exact ih0 _ _ | exact ih1 _ _ _ | exact ih2 _ _ _ _ _ | exact spec_l7Segments.mono _ _ | exact LeO.none _ | refine LeO.ite ?_ ?_ | refine LeO.bind ?_ (fun _ => ?_)
  ·intro y0 y1 y2
   unfold spec_IsRing.l1
   repeat' first | (with_reducible first | exact ih0 _ _ | exact ih1 _ _ _ | exact ih2 _ _ _ _ _ | exact spec_l7Segments.mono _ _ | exact LeO.refl _ | exact LeO.none _ | refine LeO.ite ?_ ?_ | refine LeO.bind ?_ (fun _ => ?_)) | exact ih0 _ _ | exact ih1 _ _ _ | exact ih2 _ _ _ _ _ | exact spec_l7Segments.mono _ _ | exact LeO.none _ | refine LeO.ite ?_ ?_ | refine LeO.bind ?_ (fun _ => ?_)
  ·intro y0 y1 y2 y3 y4
   unfold spec_IsRing.j2
   repeat' first | (with_reducible first | exact ih0 _ _ | exact ih1 _ _ _ | exact ih2 _ _ _ _ _ | exact spec_l7Segments.mono _ _ | exact LeO.refl _ | exact LeO.none _ | refine LeO.ite ?_ ?_ | refine LeO.bind ?_ (fun _ => ?_)) | exact ih0 _ _ | exact ih1 _ _ _ | exact ih2 _ _ _ _ _ | exact spec_l7Segments.mono _ _ | exact LeO.none _ | refine LeO.ite ?_ ?_ | refine LeO.bind ?_ (fun _ => ?_)
theorem spec_IsRing.mono : ∀ a0 k, LeO (spec_IsRing.f k a0) (spec_IsRing.f (k + 1) a0) := by
 intro a0 k; obtain ⟨ih0, ih1, ih2⟩ := spec_IsRing.mono_l k
 unfold spec_IsRing.f
 repeat' first | (with_reducible first | exact ih0 _ _ | exact ih1 _ _ _ | exact ih2 _ _ _ _ _ | exact spec_l7Segments.mono _ _ | exact LeO.refl _ | exact LeO.none _ | refine LeO.ite ?_ ?_ | refine LeO.bind ?_ (fun _ => ?_)) | exact ih0 _ _ | exact ih1 _ _ _ | exact ih2 _ _ _ _ _ | exact spec_l7Segments.mono _ _ | exact LeO.none _ | refine LeO.ite ?_ ?_ | refine LeO.bind ?_ (fun _ => ?_)
theorem spec_TwiceArea.mono_l : ∀ k, (∀ y0 y1 y2 y3, LeO (spec_TwiceArea.l0 k y0 y1 y2 y3) (spec_TwiceArea.l0 (k + 1) y0 y1 y2 y3))
 | 0 => fun _ _ _ _ r h => by simp [spec_TwiceArea.l0] at h
 | k + 1 => by
  have ih0 := spec_TwiceArea.mono_l k
  ·intro y0 y1 y2 y3
   unfold spec_TwiceArea.l0
   repeat' first | (with_reducible first | exact ih0 _ _ _ _ | exact spec_IsRing.mono _ _ | exact spec_l7Segments.mono _ _ | exact LeO.refl _ | exact LeO.none _ | refine LeO.ite ?_ ?_ | refine LeO.bind ?_ (fun _ => ?_)) | exact ih0 _ _ _ _ | exact spec_IsRing.mono _ _ | exact spec_l7Segments.mono _ _ | exact LeO.none _ | refine LeO.ite ?_ ?_ | refine LeO.bind ?_ (fun _ => ?_)
theorem spec_TwiceArea.mono : ∀ a0 k, LeO (spec_TwiceArea.f k a0) (spec_TwiceArea.f (k + 1) a0) := by
 intro a0 k; have ih0 := spec_TwiceArea.mono_l k
 unfold spec_TwiceArea.f
 repeat' first | (with_reducible first | exact ih0 _ _ _ _ | exact spec_IsRing.mono _ _ | exact spec_l7Segments.mono _ _ | exact LeO.refl _ | exact LeO.none _ | refine LeO.ite ?_ ?_ | refine LeO.bind ?_ (fun _ => ?_)) | exact ih0 _ _ _ _ | exact spec_IsRing.mono _ _ | exact spec_l7Segments.mono _ _ | exact LeO.none _ | refine LeO.ite ?_ ?_ | refine LeO.bind ?_ (fun _ => ?_)
theorem spec_SameTurn.mono : ∀ a0 a1 k, LeO (spec_SameTurn.f k a0 a1) (spec_SameTurn.f (k + 1) a0 a1) := by
 intro a0 a1 k
 unfold spec_SameTurn.f
 repeat' first | (with_reducible first | exact spec_TwiceArea.mono _ _ | exact LeO.refl _ | exact LeO.none _ | refine LeO.ite ?_ ?_ | refine LeO.bind ?_ (fun _ => ?_)) | exact spec_TwiceArea.mono _ _ | exact LeO.none _ | refine LeO.ite ?_ ?_ | refine LeO.bind ?_ (fun _ => ?_)
theorem spec_DropCorner.mono_l : ∀ k, (∀ y0 y1 y2, LeO (spec_DropCorner.j0 k y0 y1 y2) (spec_DropCorner.j0 (k + 1) y0 y1 y2))
 | 0 => fun _ _ _ r h => by simp [spec_DropCorner.j0] at h
 | k + 1 => by
  have ih0 := spec_DropCorner.mono_l k
  ·intro y0 y1 y2
   unfold spec_DropCorner.j0
   repeat' first | (with_reducible first | exact ih0 _ _ _ | exact spec_IsRing.mono _ _ | exact spec_SameTurn.mono _ _ _ | exact LeO.refl _ | exact LeO.none _ | refine LeO.ite ?_ ?_ | refine LeO.bind ?_ (fun _ => ?_)) | exact ih0 _ _ _ | exact spec_IsRing.mono _ _ | exact spec_SameTurn.mono _ _ _ | exact LeO.none _ | refine LeO.ite ?_ ?_ | refine LeO.bind ?_ (fun _ => ?_)
theorem spec_DropCorner.mono : ∀ a0 a1 k, LeO (spec_DropCorner.f k a0 a1) (spec_DropCorner.f (k + 1) a0 a1) := by
 intro a0 a1 k; have ih0 := spec_DropCorner.mono_l k
 unfold spec_DropCorner.f
 repeat' first | (with_reducible first | exact ih0 _ _ _ | exact spec_IsRing.mono _ _ | exact spec_SameTurn.mono _ _ _ | exact LeO.refl _ | exact LeO.none _ | refine LeO.ite ?_ ?_ | refine LeO.bind ?_ (fun _ => ?_)) | exact ih0 _ _ _ | exact spec_IsRing.mono _ _ | exact spec_SameTurn.mono _ _ _ | exact LeO.none _ | refine LeO.ite ?_ ?_ | refine LeO.bind ?_ (fun _ => ?_)
def spec_DropCorner.T3 : Bool × List (List Nat × List Nat) := (true, [([], []), ([], []), ([], []), ([1, 2], [1, 2]), ([0, 3], [0, 3]), ([], []), ([], []), ([6], [6]), ([5, 7], [5, 7]), ([4, 8, 4], [4, 8]), ([9, 9, 0, 1, 2, 3, 4, 5, 6, 7, 8, 9], [9])])
def spec_DropCorner.B3 : List Nat := [0, 0, 0, 6, 15, 0, 0, 64, 224, 511, 1023]
theorem spec_DropCorner.tab3 : rtab .any (opsOf Try.f39 3) = spec_DropCorner.T3 := by kernel_rfl
theorem spec_DropCorner.bits3 : waitsOk spec_DropCorner.T3.2 spec_DropCorner.B3 = true := by kernel_rfl
theorem eqnil0_ {P : Program} (w : World) (d : Nat) (t e : TypeId) (a : Option Addr) (n c n' c' : Nat) (h : P.underlying t = some (.slice e)) : (Op.equalIn (d + 1) t (.slice a n c) (.slice none n' c')).run P w = .ok a.isNone w := by cases a <;> simp [Op.equalIn, run_underlying h]
theorem eqnil_ {P : Program} (w : World) (t e : TypeId) (a : Option Addr) (n c n' c' : Nat) (h : P.underlying t = some (.slice e)) : (binOp .eql t (.slice a n c) (.slice none n' c')).run P w = .ok (.bool a.isNone) w := by
  simp only [binOp]; simp [Op.equal, Op.maxDepth, eqnil0_ w 9999 t e a n c n' c' h]
set_option maxHeartbeats 2000000 in
set_option maxRecDepth 100000 in
theorem impl_Point.calls (A0 : Option Addr) (c0 : Nat) (l0 : List S77) (r : List S77) (w : World) (hr0 : Kd.C k77 w A0 l0.length l0) (hc0 : l0.length ≤ c0) (h : impl_Point.f l0 = some r) :
    Calls Try.prog 74 #[.slice A0 l0.length c0] w fun e w' => ∃ v0_ : Value, e = .returned (v0_) ∧ Kd.R k77 77 w' w.heap.size (fun _ => True) v0_ r ∧ Below w.heap.size w w' := by
  unfold impl_Point.f at h
  split at h
  · rename_i hlt
    obtain rfl := Option.some.inj h; have HR0 := Aside0.mk hr0; have HLT := Aside0.mk hlt; have q26 : ∀ (w : World) (a : Option Addr) (n c n' c' : Nat), (binOp .eql 26 (.slice a n c) (.slice none n' c')).run Try.prog w = .ok (.bool a.isNone) w := fun w a n c n' c' => eqnil_ w _ _ a n c n' c' Try.underlying26
    clear hr0 hlt h
    go_enter Try.func74, Try.ntmps74
    cases A0 with
    | none =>
      go_wp2; go_ret; have h0 : l0 = [] := by
        rcases Nat.eq_zero_or_pos l0.length with h0 | h0
        · exact List.eq_nil_of_length_eq_zero h0
        · obtain ⟨ad, h, _⟩ := HR0.out.2.2 h0
          cases h
      subst h0
      exact ⟨_, rfl, Kd.R_nil _ _ _ _ _, Below.refl _ _⟩
    | some a =>
      go_wp2_with (first | ((with_reducible refine gate_dst (N := 5) rfl ?_); (try (refine gate_guard (by rfl) ?_; dsimp only)); refine Kd.R_lit k77 _ 77 ?hg (N := 5) ?hd (xs := ([] : List (S77))) (inner := []) (ok := fun _ => True) (okp := fun _ => True) ?hr ?hp (fun _ hk => hk) trivial (Below.refl _ _) (Nat.le_refl _) (by simp) ?_; (case hd => rfl); (case hg => rfl); (case hr => first | (go_simp; done) | (go_simp; rfl)); (case hp => exact (Reps.none _ _)); intro v119 w11 ho12 hb hg_ hnew_; clear hg_ hnew_; have HO := Aside0.mk ho12; have HB := Aside0.mk hb; clear hb ho12) | ((with_reducible refine gate_builtin (b := .append) (xs := #[.tmp 5, .tmp 6]) rfl ?_); (try (refine gate_guard (by rfl) ?_; dsimp only)); at_builtin; refine Kd.R_append_rows k77 (w0 := w) w.heap.size rfl (.tmp 5) (.tmp 6) 26 77 (.agg #[(.int .i64 0), (.int .i64 0)]) 16 rfl Try.underlying26 info77 rfl (by decide) (by omega) v119 [] l0 _ _ _ (fun _ => True) (fun _ => False) rfl rfl ?aO ?aR (fun _ _ h => h) (fun _ h => h.elim) ?aF ?aB ?aS ?aL ?_; (case aR => exact (Kd.C_below HR0.out HB.out)); (case aB => exact HB.out); (case aF => exact (fun _ _ => trivial)); (case aO => exact HO.out); (case aS => exact (below_size HB.out)); (case aL => have := HLT.out; simp; omega); intro v122 w13 ho hb hg hat; have HO2 := Aside0.mk ho; clear HB HO; have HB := Aside0.mk hb; clear ho hb hg hat)); go_ret
      exact ⟨_, rfl, by simpa using HO2.out, HB.out⟩
  · cases h
theorem impl_InRange.any (a0 : Int) (a1 : Int) (a2 : Int) (w : World) :
    Calls Try.prog 76 #[.int .i64 a0, .int .i64 a1, .int .i64 a2] w fun e w' => e = .returned (.bool (inR a0 a1 a2)) ∧ w = w' := by
  go_enter Try.func76, Try.ntmps76; go_wp2
  all_goals (go_ret; refine ⟨?_, rfl⟩; congr 2; first | (simp [inR, *]; done) | (simp [inR, *] <;> omega) | (unfold inR; repeat' split <;> first | rfl | omega))
theorem impl_InRange.calls (a0 : Int) (a1 : Int) (a2 : Int) (r : Bool) (w : World) (h : impl_InRange.f a0 a1 a2 = some r) :
    Calls Try.prog 76 #[.int .i64 a0, .int .i64 a1, .int .i64 a2] w fun e w' => e = .returned (.bool (r)) ∧ ∃ nd_ : Nat, w = w' := by
  obtain rfl := Option.some.inj h
  exact (impl_InRange.any a0 a1 a2 w).mono fun e w' ⟨he, hw⟩ => ⟨he, 0, hw⟩
theorem impl_IsPoint.any (a0_0 : Int) (a0_1 : Int) (w : World) :
    Calls Try.prog 82 #[.agg #[.int .i64 a0_0, .int .i64 a0_1]] w fun e w' => e = .returned (.bool (isPt a0_0 a0_1)) ∧ Below w.heap.size w w' := by
  have HB := Aside0.mk (Below.refl w.heap.size w)
  go_enter Try.func82, Try.ntmps82; go_wp2_with (first
    | (go_at_call 76; refine (impl_InRange.any _ _ _ _).mono ?_; rintro e w1 ⟨rfl, rfl⟩))
  all_goals (go_ret; refine ⟨?_, by repeat (first | (with_reducible first | exact HB.out | apply below_alloc | apply below_drew1 | apply pw_below_drewN) | exact HB.out)⟩; clear HB; congr 2; simp [isPt, *])
theorem impl_IsPoint.calls (a0_0 : Int) (a0_1 : Int) (r : Bool) (w : World) (h : impl_IsPoint.f a0_0 a0_1 = some r) :
    Calls Try.prog 82 #[.agg #[.int .i64 a0_0, .int .i64 a0_1]] w fun e w' => e = .returned (.bool (r)) ∧ Below w.heap.size w w' := by
  obtain rfl := Option.some.inj h
  exact (impl_IsPoint.any a0_0 a0_1 w).mono fun e w' ⟨he, hw⟩ => ⟨he, hw⟩
set_option maxHeartbeats 2000000 in
set_option maxRecDepth 100000 in
theorem grow_P (n : Nat) (w : World) (hn : n < 8796093022208) :
    Calls Try.prog 122 #[.slice none 0 0, .int .i64 n] w fun e w' => ∃ v0_ : Value, e = .returned (v0_) ∧ Kd.R k77 77 w' w.heap.size (fun _ => True) v0_ [] ∧ Below w.heap.size w w' := by
  have q1 : ¬ ((n : Int) < 0) := by omega
  have q2 : wrap64 (n : Int) = (n : Int) := by unfold wrap64; omega
  have HN := Aside0.mk hn
  rcases Nat.eq_zero_or_pos n with h0 | h0
  · subst h0; clear hn q2 q1
    go_enter Try.func122, Try.ntmps122; go_wp2; go_ret
    exact ⟨_, rfl, Kd.R_nil _ _ _ _ _, Below.refl _ _⟩
  · have q3 : (0 < (n : Int)) := by omega
    clear hn h0; have HO0 := Aside0.mk (Kd.R_nil k77 77 w w.heap.size (fun _ => True))
    go_enter Try.func122, Try.ntmps122; go_wp2_with (at_builtin; refine Kd.R_append_zeros k77 (w0 := w) w.heap.size rfl (.tmp 20) (.tmp 21) 26 3 77 (.agg #[(.int .i64 0), (.int .i64 0)]) 16 rfl Try.underlying26 Try.underlying3 info77 rfl (by decide) (by omega) (.slice none 0 0) [] z77 (wrap64 (n : Int)) (fun _ => True) rfl rfl ?aZ (fun _ _ => trivial) HO0.out (by rw [q2]; omega) (Below.refl _ _) (Nat.le_refl _) ?aL ?_; (case aL => have := HN.out; rw [q2]; simp; omega); (case aZ => exact ⟨[.int .i64 0], [.int .i64 0], rfl, rfl, rfl⟩); intro v122 w13 ho hb hg hat; rw [q2, Int.toNat_natCast, List.nil_append] at ho; generalize List.replicate n z77 = L at ho; obtain ⟨A, c, rfl⟩ := Kd.R_slice ho; have HO2 := Aside0.mk ho; have HB := Aside0.mk hb; have h00 : (0 : Nat) ≤ c := Nat.zero_le c; clear ho hb hg hat); go_ret
    exact ⟨_, rfl, by simpa using Kd.R_take HO2.out (Nat.zero_le _), HB.out⟩
set_option maxHeartbeats 4000000 in
set_option maxRecDepth 100000 in
theorem concat_P (g : Nat) (A B : Option Addr) (ca cb : Nat) (xs ys : List S77) (w : World) (hA : Kd.C k77 w A xs.length xs) (hB : Kd.C k77 w B ys.length ys) (h0 : w.cell? ⟨g, 0, none⟩ = some (.slice A xs.length ca)) (h1 : w.cell? ⟨g, 1, none⟩ = some (.slice B ys.length cb)) (hn : xs.length + ys.length < 8796093022208) :
    Calls Try.prog 104 #[.slice (some ⟨g, 0, none⟩) 2 2] w fun e w' => ∃ v0_ : Value, e = .returned (v0_) ∧ Kd.R k77 77 w' w.heap.size (fun _ => True) v0_ (xs ++ ys) ∧ Below w.heap.size w w' := by
  have HA := Aside0.mk hA; have HB := Aside0.mk hB; have HN := Aside0.mk hn; have H0 := Aside0.mk h0; have H1 := Aside0.mk h1; have e1 : wrap64 (0 + (xs.length : Int)) = (xs.length : Int) := by unfold wrap64; omega
  have e1' : wrap64 (xs.length : Int) = (xs.length : Int) := by unfold wrap64; omega
  have e2 : wrap64 ((xs.length : Int) + (ys.length : Int)) = ((xs.length + ys.length : Nat) : Int) := by unfold wrap64; omega
  have e3 : decide (((xs.length + ys.length : Nat) : Int) < 0) = false := decide_eq_false (by omega); have e4 : decide ((xs.length : Int) < 0) = false := decide_eq_false (by omega); have hg : ∀ W : World, Calls Try.prog 122 #[.slice none 0 0, .int .i64 ((xs.length : Int) + (ys.length : Int))] W fun e w' => ∃ v0_ : Value, e = .returned (v0_) ∧ Kd.R k77 77 w' W.heap.size (fun _ => True) v0_ [] ∧ Below W.heap.size W w' := fun W => by
    have := grow_P (xs.length + ys.length) W hn; rw [Int.natCast_add] at this
    exact this
  have HL0 := World.block_lt_of_cell? w _ h0; clear hA hB hn
  go_enter Try.func104, Try.ntmps104; go_wp2; refine wp_loop_rounds 3 ?_; rw [rounds_succ]; go_wp2; rw [rounds_succ]; go_wp2; rw [rounds_succ]; go_wp2_with (go_at_call 122; refine (hg _).mono ?_; rintro e w1 ⟨v1, rfl, ho, hb⟩; have HO := Aside0.mk ho; have HW := Aside0.mk hb; have g0 : w1.cell? { block := g, off := 0 } = some (.slice A xs.length ca) := (hb.cell HL0).trans H0.out; have g1 : w1.cell? { block := g, off := 1 } = some (.slice B ys.length cb) := (hb.cell HL0).trans H1.out; clear ho hb); refine wp_loop_rounds 3 ?_; rw [rounds_succ]; go_wp2_with (at_builtin; refine Kd.R_append_rows k77 (w0 := w) w.heap.size rfl (.tmp 31) (.tmp 32) 26 77 (.agg #[(.int .i64 0), (.int .i64 0)]) 16 rfl Try.underlying26 info77 rfl (by decide) (by omega) v1 [] xs _ _ _ (fun _ => True) (fun _ => False) rfl rfl ?aO ?aR (fun _ _ h => h) (fun _ h => h.elim) ?aF ?aB ?aS ?aL ?_; (case aR => exact (Kd.C_below HA.out HW.out)); (case aB => exact HW.out); (case aF => exact (fun _ _ => trivial)); (case aO => exact HO.out); (case aS => exact (below_size HW.out)); (case aL => have := HN.out; simp; omega); intro v2 w2 ho hb hg_ hat; clear hg_ hat HO HW; rw [List.nil_append] at ho; have HO := Aside0.mk ho; have HW := Aside0.mk hb; have g2 : w2.cell? { block := g, off := 1 } = some (.slice B ys.length cb) := (hb.cell HL0).trans H1.out; clear ho hb); rw [rounds_succ]; go_wp2_with (at_builtin; refine Kd.R_append_rows k77 (w0 := w) w.heap.size rfl (.tmp 31) (.tmp 32) 26 77 (.agg #[(.int .i64 0), (.int .i64 0)]) 16 rfl Try.underlying26 info77 rfl (by decide) (by omega) v2 xs ys _ _ _ (fun _ => True) (fun _ => False) rfl rfl ?aO ?aR (fun _ _ h => h) (fun _ h => h.elim) ?aF ?aB ?aS ?aL ?_; (case aR => exact (Kd.C_below HB.out HW.out)); (case aB => exact HW.out); (case aF => exact (fun _ _ => trivial)); (case aO => exact HO.out); (case aS => exact (below_size HW.out)); (case aL => have := HN.out; omega); intro v3 w3 ho hb hg_ hat; clear hg_ hat HO HW; have HO := Aside0.mk ho; have HW := Aside0.mk hb; clear ho hb)
  rw [rounds_succ]; go_wp2; go_ret
  exact ⟨_, rfl, HO.out, HW.out⟩
def impl_without.T1 : Bool × List (List Nat × List Nat) := (true, [([], []), ([], []), ([0, 1], [0, 1]), ([], []), ([], []), ([4], [4]), ([3, 5], [3, 5]), ([2, 6], [2, 6]), ([7], [7]), ([8, 8, 0, 1, 2, 3, 4, 5, 6, 7, 8], [8])])
def impl_without.B1 : List Nat := [0, 0, 3, 0, 0, 16, 56, 127, 255, 511]
theorem impl_without.tab1 : rtab .any (opsOf Try.f77 1) = impl_without.T1 := by kernel_rfl
theorem impl_without.bits1 : waitsOk impl_without.T1.2 impl_without.B1 = true := by kernel_rfl
theorem impl_IsSegment.any (a0_0 : Int) (a0_1 : Int) (a0_2 : Int) (a0_3 : Int) (w : World) :
    Calls Try.prog 106 #[.agg #[.int .i64 a0_0, .int .i64 a0_1, .int .i64 a0_2, .int .i64 a0_3]] w fun e w' => e = .returned (.bool (isSeg a0_0 a0_1 a0_2 a0_3)) ∧ Below w.heap.size w w' := by
  have HB := Aside0.mk (Below.refl w.heap.size w)
  go_enter Try.func106, Try.ntmps106; go_wp2_with (first
    | (go_at_call 82; refine (impl_IsPoint.any _ _ _).mono ?_; rintro e w1 ⟨rfl, hb⟩; have n0 := Aside0.mk (below_step (by repeat (first | (with_reducible first | exact HB.out | apply below_alloc | apply below_drew1 | apply pw_below_drewN) | exact HB.out)) hb); clear HB; have HB := n0; clear n0; obtain ⟨hc, hf⟩ := bcell hb; have hz0 : w.heap.size < w1.heap.size := (by have := hb.size; (try simp at this); omega); clear hb))
  all_goals (go_ret; refine ⟨?_, by repeat (first | (with_reducible first | exact HB.out | apply below_alloc | apply below_drew1 | apply pw_below_drewN) | exact HB.out)⟩; clear HB; congr 2; unfold isSeg; first | (simp_all; done) | (simp_all; rfl))
theorem impl_IsSegment.calls (a0_0 : Int) (a0_1 : Int) (a0_2 : Int) (a0_3 : Int) (r : Bool) (w : World) (h : impl_IsSegment.f a0_0 a0_1 a0_2 a0_3 = some r) :
    Calls Try.prog 106 #[.agg #[.int .i64 a0_0, .int .i64 a0_1, .int .i64 a0_2, .int .i64 a0_3]] w fun e w' => e = .returned (.bool (r)) ∧ Below w.heap.size w w' := by
  obtain rfl := Option.some.inj h
  exact (impl_IsSegment.any a0_0 a0_1 a0_2 a0_3 w).mono fun e w' ⟨he, hw⟩ => ⟨he, hw⟩
theorem cmp_isNaN_int.any (a0 : Int) (w : World) :
    Calls Try.prog 108 #[.int .i64 a0] w fun e w' => e = .returned (.bool (false)) ∧ w = w' := by
  go_enter Try.func108, Try.ntmps108; go_wp2
  all_goals (go_ret; refine ⟨?_, rfl⟩; simp)
theorem cmp_Compare_int.any (a0 : Int) (a1 : Int) (w : World) :
    Calls Try.prog 79 #[.int .i64 a0, .int .i64 a1] w fun e w' => e = .returned (.int .i64 (cmpI a0 a1)) ∧ w = w' := by
  go_enter Try.func79, Try.ntmps79; go_wp2_with (first
    | (go_at_call 108; refine (cmp_isNaN_int.any _ _).mono ?_; rintro e w1 ⟨rfl, rfl⟩))
  all_goals (go_ret; refine ⟨?_, rfl⟩; congr 2; first | (simp [cmpI, *]; done) | (unfold cmpI; repeat' split) <;> first | rfl | omega)
theorem cmp_Compare_int.calls (a0 : Int) (a1 : Int) (r : Int) (w : World) (h : cmp_Compare_int.f a0 a1 = some r) :
    Calls Try.prog 79 #[.int .i64 a0, .int .i64 a1] w fun e w' => e = .returned (.int .i64 (r)) ∧ ∃ nd_ : Nat, w = w' := by
  obtain rfl := Option.some.inj h
  exact (cmp_Compare_int.any a0 a1 w).mono fun e w' ⟨he, hw⟩ => ⟨he, 0, hw⟩
theorem impl_cross.any (a0_0 : Int) (a0_1 : Int) (a1_0 : Int) (a1_1 : Int) (a2_0 : Int) (a2_1 : Int) (w : World) :
    Calls Try.prog 121 #[.agg #[.int .i64 a0_0, .int .i64 a0_1], .agg #[.int .i64 a1_0, .int .i64 a1_1], .agg #[.int .i64 a2_0, .int .i64 a2_1]] w fun e w' => e = .returned (.int .i64 (crossI a0_0 a0_1 a1_0 a1_1 a2_0 a2_1)) ∧ Below w.heap.size w w' := by
  have HB := Aside0.mk (Below.refl w.heap.size w)
  go_enter Try.func121, Try.ntmps121; go_wp2
  all_goals (go_ret; refine ⟨?_, by repeat (first | (with_reducible first | exact HB.out | apply below_alloc | apply below_drew1 | apply pw_below_drewN) | exact HB.out)⟩; clear HB; rfl)
theorem impl_cross.calls (a0_0 : Int) (a0_1 : Int) (a1_0 : Int) (a1_1 : Int) (a2_0 : Int) (a2_1 : Int) (r : Int) (w : World) (h : impl_cross.f a0_0 a0_1 a1_0 a1_1 a2_0 a2_1 = some r) :
    Calls Try.prog 121 #[.agg #[.int .i64 a0_0, .int .i64 a0_1], .agg #[.int .i64 a1_0, .int .i64 a1_1], .agg #[.int .i64 a2_0, .int .i64 a2_1]] w fun e w' => e = .returned (.int .i64 (r)) ∧ Below w.heap.size w w' := by
  obtain rfl := Option.some.inj h
  exact (impl_cross.any a0_0 a0_1 a1_0 a1_1 a2_0 a2_1 w).mono fun e w' ⟨he, hw⟩ => ⟨he, hw⟩
set_option maxHeartbeats 4000000 in
theorem impl_SideOf.any (a0_0 : Int) (a0_1 : Int) (a1_0 : Int) (a1_1 : Int) (a2_0 : Int) (a2_1 : Int) (w : World) :
    Calls Try.prog 123 #[.agg #[.int .i64 a0_0, .int .i64 a0_1], .agg #[.int .i64 a1_0, .int .i64 a1_1], .agg #[.int .i64 a2_0, .int .i64 a2_1]] w fun e w' => e = .returned (.int .i64 (sideI a0_0 a0_1 a1_0 a1_1 a2_0 a2_1)) ∧ Below w.heap.size w w' := by
  have HB := Aside0.mk (Below.refl w.heap.size w)
  go_enter Try.func123, Try.ntmps123; go_wp2_with (first
    | (go_at_call 82; refine (impl_IsPoint.any _ _ _).mono ?_; rintro e w1 ⟨rfl, hb⟩; have n0 := Aside0.mk (below_step (by repeat (first | (with_reducible first | exact HB.out | apply below_alloc | apply below_drew1 | apply pw_below_drewN) | exact HB.out)) hb); clear HB; have HB := n0; clear n0; obtain ⟨hc, hf⟩ := bcell hb; have hz0 : w.heap.size < w1.heap.size := (by have := hb.size; (try simp at this); omega); have hz1 : w.heap.size + 1 < w1.heap.size := (by have := hb.size; (try simp at this); omega); have hz2 : w.heap.size + 1 + 1 < w1.heap.size := (by have := hb.size; (try simp at this); omega); clear hb)
    | (go_at_call 121; refine (impl_cross.any _ _ _ _ _ _ _).mono ?_; rintro e w1 ⟨rfl, hb⟩; have n0 := Aside0.mk (below_step (by repeat (first | (with_reducible first | exact HB.out | apply below_alloc | apply below_drew1 | apply pw_below_drewN) | exact HB.out)) hb); clear HB; have HB := n0; clear n0; obtain ⟨hc, hf⟩ := bcell hb; have hz0 : w.heap.size < w1.heap.size := (by have := hb.size; (try simp at this); omega); have hz1 : w.heap.size + 1 < w1.heap.size := (by have := hb.size; (try simp at this); omega); have hz2 : w.heap.size + 1 + 1 < w1.heap.size := (by have := hb.size; (try simp at this); omega); clear hb)
    | (go_at_call 79; refine (cmp_Compare_int.any _ _ _).mono ?_; rintro e w1 ⟨rfl, rfl⟩))
  all_goals (go_ret; refine ⟨?_, by repeat (first | (with_reducible first | exact HB.out | apply below_alloc | apply below_drew1 | apply pw_below_drewN) | exact HB.out)⟩; clear HB; congr 2; unfold sideI; split <;> rename_i hq <;> simp_all)
theorem impl_SideOf.calls (a0_0 : Int) (a0_1 : Int) (a1_0 : Int) (a1_1 : Int) (a2_0 : Int) (a2_1 : Int) (r : Int) (w : World) (h : impl_SideOf.f a0_0 a0_1 a1_0 a1_1 a2_0 a2_1 = some r) :
    Calls Try.prog 123 #[.agg #[.int .i64 a0_0, .int .i64 a0_1], .agg #[.int .i64 a1_0, .int .i64 a1_1], .agg #[.int .i64 a2_0, .int .i64 a2_1]] w fun e w' => e = .returned (.int .i64 (r)) ∧ Below w.heap.size w w' := by
  obtain rfl := Option.some.inj h
  exact (impl_SideOf.any a0_0 a0_1 a1_0 a1_1 a2_0 a2_1 w).mono fun e w' ⟨he, hw⟩ => ⟨he, hw⟩
theorem impl_BeforePoint.any (a0_0 : Int) (a0_1 : Int) (a1_0 : Int) (a1_1 : Int) (w : World) :
    Calls Try.prog 125 #[.agg #[.int .i64 a0_0, .int .i64 a0_1], .agg #[.int .i64 a1_0, .int .i64 a1_1]] w fun e w' => e = .returned (.bool (beforeI a0_0 a0_1 a1_0 a1_1)) ∧ Below w.heap.size w w' := by
  have HB := Aside0.mk (Below.refl w.heap.size w)
  go_enter Try.func125, Try.ntmps125; go_wp2
  all_goals (go_ret; refine ⟨?_, by repeat (first | (with_reducible first | exact HB.out | apply below_alloc | apply below_drew1 | apply pw_below_drewN) | exact HB.out)⟩; clear HB; congr 2; unfold beforeI; simp_all)
theorem impl_BeforePoint.calls (a0_0 : Int) (a0_1 : Int) (a1_0 : Int) (a1_1 : Int) (r : Bool) (w : World) (h : impl_BeforePoint.f a0_0 a0_1 a1_0 a1_1 = some r) :
    Calls Try.prog 125 #[.agg #[.int .i64 a0_0, .int .i64 a0_1], .agg #[.int .i64 a1_0, .int .i64 a1_1]] w fun e w' => e = .returned (.bool (r)) ∧ Below w.heap.size w w' := by
  obtain rfl := Option.some.inj h
  exact (impl_BeforePoint.any a0_0 a0_1 a1_0 a1_1 w).mono fun e w' ⟨he, hw⟩ => ⟨he, hw⟩
set_option maxHeartbeats 4000000 in
theorem impl_IsOn.any (a0_0 : Int) (a0_1 : Int) (a0_2 : Int) (a0_3 : Int) (a1_0 : Int) (a1_1 : Int) (w : World) :
    Calls Try.prog 126 #[.agg #[.int .i64 a0_0, .int .i64 a0_1, .int .i64 a0_2, .int .i64 a0_3], .agg #[.int .i64 a1_0, .int .i64 a1_1]] w fun e w' => e = .returned (.bool (isOnI a0_0 a0_1 a0_2 a0_3 a1_0 a1_1)) ∧ Below w.heap.size w w' := by
  have HB := Aside0.mk (Below.refl w.heap.size w)
  go_enter Try.func126, Try.ntmps126; go_wp2_with (first
    | (go_at_call 106; refine (impl_IsSegment.any _ _ _ _ _).mono ?_; rintro e w1 ⟨rfl, hb⟩; have n0 := Aside0.mk (below_step (by repeat (first | (with_reducible first | exact HB.out | apply below_alloc | apply below_drew1 | apply pw_below_drewN) | exact HB.out)) hb); clear HB; have HB := n0; clear n0; obtain ⟨hc, hf⟩ := bcell hb; have hz0 : w.heap.size < w1.heap.size := (by have := hb.size; (try simp at this); omega); have hz1 : w.heap.size + 1 < w1.heap.size := (by have := hb.size; (try simp at this); omega); clear hb)
    | (go_at_call 82; refine (impl_IsPoint.any _ _ _).mono ?_; rintro e w1 ⟨rfl, hb⟩; have n0 := Aside0.mk (below_step (by repeat (first | (with_reducible first | exact HB.out | apply below_alloc | apply below_drew1 | apply pw_below_drewN) | exact HB.out)) hb); clear HB; have HB := n0; clear n0; obtain ⟨hc, hf⟩ := bcell hb; have hz0 : w.heap.size < w1.heap.size := (by have := hb.size; (try simp at this); omega); have hz1 : w.heap.size + 1 < w1.heap.size := (by have := hb.size; (try simp at this); omega); clear hb)
    | (go_at_call 123; refine (impl_SideOf.any _ _ _ _ _ _ _).mono ?_; rintro e w1 ⟨rfl, hb⟩; have n0 := Aside0.mk (below_step (by repeat (first | (with_reducible first | exact HB.out | apply below_alloc | apply below_drew1 | apply pw_below_drewN) | exact HB.out)) hb); clear HB; have HB := n0; clear n0; obtain ⟨hc, hf⟩ := bcell hb; have hz0 : w.heap.size < w1.heap.size := (by have := hb.size; (try simp at this); omega); have hz1 : w.heap.size + 1 < w1.heap.size := (by have := hb.size; (try simp at this); omega); clear hb)
    | (go_at_call 76; refine (impl_InRange.any _ _ _ _).mono ?_; rintro e w1 ⟨rfl, rfl⟩))
  all_goals (go_ret; refine ⟨?_, by repeat (first | (with_reducible first | exact HB.out | apply below_alloc | apply below_drew1 | apply pw_below_drewN) | exact HB.out)⟩; clear HB; congr 2; unfold isOnI; simp_all [mn_le, mn_lt, mn_ge, mn_gt, mx_le, mx_lt, mx_ge, mx_gt] <;> first | (congr 1; omega) | (congr 1 <;> congr 1 <;> omega) | (have e1 : a0_1 = a0_3 := (by omega); subst e1; simp_all; done) | (have e0 : a0_0 = a0_2 := (by omega); subst e0; simp_all; done) | (have e0 : a0_0 = a0_2 := (by omega); have e1 : a0_1 = a0_3 := (by omega); subst e0; subst e1; simp_all; done))
theorem impl_IsOn.calls (a0_0 : Int) (a0_1 : Int) (a0_2 : Int) (a0_3 : Int) (a1_0 : Int) (a1_1 : Int) (r : Bool) (w : World) (h : impl_IsOn.f a0_0 a0_1 a0_2 a0_3 a1_0 a1_1 = some r) :
    Calls Try.prog 126 #[.agg #[.int .i64 a0_0, .int .i64 a0_1, .int .i64 a0_2, .int .i64 a0_3], .agg #[.int .i64 a1_0, .int .i64 a1_1]] w fun e w' => e = .returned (.bool (r)) ∧ Below w.heap.size w w' := by
  obtain rfl := Option.some.inj h
  exact (impl_IsOn.any a0_0 a0_1 a0_2 a0_3 a1_0 a1_1 w).mono fun e w' ⟨he, hw⟩ => ⟨he, hw⟩
set_option maxHeartbeats 8000000 in
set_option maxRecDepth 100000 in
theorem laws_markText.calls (k : Nat) (a0 : Int) (r : ByteArray) (w : World) (h : laws_markText.f k a0 = some r) :
  Calls Try.prog 52 #[.int .i64 a0] w fun e w' => e = .returned (.string r) ∧ Below w.heap.size w w' := by
 have HB := Aside0.mk (Below.refl w.heap.size w); have H : (if a0 ≤ 0 then (some (⟨#[109, 48]⟩ : ByteArray)) else (laws_markText.l0 k a0 (⟨#[]⟩ : ByteArray))) = some r := h; clear h
 by_cases c2 : a0 ≤ 0
 ·rw [if_pos c2] at H; have c2b0 := decide_eq_true c2; clear c2; obtain rfl := Option.some.inj H
  go_enter Try.func52, Try.ntmps52; go_wp2; go_ret
  exact ⟨ez, bz⟩
 ·rw [if_neg c2] at H; have c2b0 := decide_eq_false c2; clear c2; have H' := Aside0.mk H; clear H
  go_enter Try.func52, Try.ntmps52; go_wp2
  go_loopg [0, 3] k (fun kq v0 v3 w' => ∃ (x0_1 : Int) (x3_1 : ByteArray), v0 = .int .i64 x0_1 ∧ v3 = .string x3_1 ∧ Aside0 (laws_markText.l0 kq x0_1 x3_1 = some r) ∧ Aside0 (kq ≤ k) ∧ Aside0 (Below w.heap.size w w'))
  case atStart => exact ⟨(a0), ((⟨#[]⟩ : ByteArray)), rz, rz, H', ⟨Nat.le_refl _⟩, ⟨bz⟩⟩
  case round =>
   clear H'; (try clear c2); (try clear c2b0); (try clear p2); obtain ⟨x0_1, x3_1, rfl, rfl, HA, HK1, HB⟩ := hrel
   cases gk with
   | zero => exact absurd HA.out (by simp [laws_markText.l0])
   | succ k1 =>
    have H := HA.out; clear HA; simp only [laws_markText.l0] at H
    by_cases c3 : x0_1 > 0
    ·rw [if_pos c3] at H; have c3b0 := decide_eq_true c3; clear c3; obtain ⟨y615, hy615⟩ : ∃ y_ : List Int, y_ = (([(wrap64 (48 + (Int.tmod x0_1 10))) % 256] : List Int)) := ⟨_, rfl⟩
     replace H : (if (strOfNums y615).size + x3_1.size ≤ 9223372036854775807 then (laws_markText.l0 k1 (wrap64 (Int.tdiv x0_1 10)) ((strOfNums y615) ++ x3_1)) else (none)) = some r := by first | (rw [hy615]; with_reducible exact H) | (have H2_ := (Option.bind_some _ _).symm.trans H; rw [hy615]; with_reducible exact H2_) | (have H2_ := (Option.bind_some _ _).symm.trans H; with_reducible exact H2_) | with_reducible exact H | (rw [hy615]; exact H) | exact H
     have Ny615 := Aside0.mk hy615; clear hy615
     by_cases c4 : (strOfNums y615).size + x3_1.size ≤ 9223372036854775807
     ·rw [if_pos c4] at H; have c4b0 := eq_true c4; have c4b1 := decide_eq_true c4; (try have c4b2 : (9223372036854775807 < (strOfNums y615).size + x3_1.size) = False := eq_false (Nat.not_lt.2 c4)); have H' := Aside0.mk H; clear H; go_wp2_with (first | ((with_reducible refine gate_dst (N := 12) rfl ?_); refine Kd.R_lit (Kd.int .u8) _ 5 ?hg (N := 12) ?hd (xs := ([(wrap64 (48 + (Int.tmod x0_1 10))) % 256] : List Int)) (inner := [.int .u8 ((wrap64 (48 + (Int.tmod x0_1 10))) % 256)]) (ok := fun _ => True) (okp := fun _ => True) ?hr ?hp (fun _ hk => hk) trivial (Below.refl _ _) (Nat.le_refl _) (by simp) ?_; (case hd => rfl); (case hg => rfl); (case hr => first | (go_simp; done) | (go_simp; rfl)); (case hp => exact (Reps.one (show Kd.M (Kd.int .u8) _ _ _ ((wrap64 (48 + (Int.tmod x0_1 10))) % 256) [.int .u8 ((wrap64 (48 + (Int.tmod x0_1 10))) % 256)] from rfl) (Reps.none _ _))); intro v616 w5 ho6 hb hg_ hnew_; clear hg_ hnew_; (first | rw [← Ny615.out] at ho6 | (simp only [Int.reduceToNat] at ho6; rw [← Ny615.out] at ho6)); have HO617 := Aside0.mk (Kd.R_lower ho6 (below_size bz)); replace HB := Aside0.mk (below_step bz hb); clear hb ho6; have hcv7 := own_string (P := Try.prog) Try.underlying47 Try.underlying5 Try.underlying9 (Kd.own_of_R HO617.out)))
      go_roundg k1
      case measure => have := HK1.out; omega
      case rel => exact ⟨(wrap64 (Int.tdiv x0_1 10)), ((strOfNums y615) ++ x3_1), rz, rz, H', ⟨by have := HK1.out; omega⟩, ⟨bz⟩⟩
     ·rw [if_neg c4] at H
      exact absurd H (by simp)
    ·rw [if_neg c3] at H; have c3b0 := decide_eq_false c3; clear c3
     by_cases c8 : 1 + x3_1.size ≤ 9223372036854775807
     ·rw [if_pos c8] at H; have c8b0 := eq_true c8; have c8b1 := decide_eq_true c8; (try have c8b2 : (9223372036854775807 < 1 + x3_1.size) = False := eq_false (Nat.not_lt.2 c8)); obtain rfl := Option.some.inj H; go_wp2; go_ret
      exact ⟨ez, bz⟩
     ·rw [if_neg c8] at H
      exact absurd H (by simp)
set_option maxHeartbeats 4000000 in
theorem mp_weak (g cap n m : Nat) (x : Int) (w : World) (hg : Blk w g m 77) (hn : 2 * n ≤ m) (hx : 0 ≤ x) (hb : x + 2 * (n : Int) < 4611686018427387904) :
    Calls Try.prog 47 #[.slice (some ⟨g, 0, none⟩) n cap, .int .i64 x] w fun e w' => e = .returned (.int .i64 (x + 2 * (n : Int))) ∧ w.grownBy w' (some g) ∧ Blk w' g m 77 := by
  have HG := Aside0.mk hg; have HW := Aside0.mk (World.grownBy.refl w (some g)); clear hg
  go_enter Try.func47, Try.ntmps47; go_wp2
  go_loopg [1, 5] n (fun gk v1 v5 wr => ∃ i : Nat, i ≤ n ∧ n - i ≤ gk ∧ v1 = .int .i64 (x + 2 * (i : Int)) ∧ v5 = .int .i64 (i : Int) ∧ Aside0 (w.grownBy wr (some g)) ∧ Aside0 (Blk wr g m 77))
  case atStart => exact ⟨0, Nat.zero_le _, Nat.le_refl _, by simp, rfl, HW, HG⟩
  case round =>
    obtain ⟨i, hi, hgk, rfl, rfl, HW, HG⟩ := hrel
    by_cases hlt : i < n
    · have d1 : decide ((i : Int) < (n : Int)) = true := decide_eq_true (by omega); have d2 : decide (0 ≤ (i : Int)) = true := decide_eq_true (by omega); have q0 : (0 ≤ (i : Int)) = True := eq_true (by omega); have q1 : ((i : Int) < (n : Int)) = True := eq_true (by omega); have q2 : (i < n) = True := eq_true hlt; obtain ⟨u0, hx0⟩ := HG.out.cell (j := i * 2) (by omega); have hf0 := HG.out.frozen (i * 2); obtain ⟨u1, hx1⟩ := HG.out.cell (j := i * 2 + 1) (by omega); have hf1 := HG.out.frozen (i * 2 + 1); have e1 : wrap64 (x + 2 * (i : Int) + 1) = x + 2 * (i : Int) + 1 := by unfold wrap64; omega
      have e2 : wrap64 (x + 2 * (i : Int) + 1 + 1) = x + 2 * ((i + 1 : Nat) : Int) := by unfold wrap64; omega
      have e3 : wrap64 ((i : Int) + 1) = ((i + 1 : Nat) : Int) := by unfold wrap64; omega
      obtain ⟨k1, rfl⟩ : ∃ k1, gk = k1 + 1 := ⟨gk - 1, by omega⟩
      go_wp2
      go_roundg k1
      case measure => omega
      case rel => exact ⟨i + 1, by omega, by omega, by congr 1; omega, rfl, ⟨grown_set (grown_set HW.out _ _) _ _⟩, ⟨(HG.out.set _ _).set _ _⟩⟩
    · have hin : i = n := by omega
      subst hin; have d1 : decide ((i : Int) < (i : Int)) = false := decide_eq_false (by omega); go_wp2; go_ret
      exact ⟨rfl, HW.out, HG.out⟩
theorem mp_none (cap : Nat) (x : Int) (w : World) : Calls Try.prog 47 #[.slice none 0 cap, .int .i64 x] w fun e w' => e = .returned (.int .i64 x) ∧ w' = w := by
  go_enter Try.func47, Try.ntmps47; go_wp2
  go_loopg [1, 5] 0 (fun gk v1 v5 wr => v1 = .int .i64 x ∧ v5 = .int .i64 0 ∧ wr = w)
  case atStart => exact ⟨rfl, rfl, rfl⟩
  case round =>
    obtain ⟨rfl, rfl, rfl⟩ := hrel; go_wp2; go_ret
    exact ⟨rfl, rfl⟩
theorem mtx (x : Int) (h0 : 0 ≤ x) (h1 : x ≤ 4611686018427387904) (w : World) : Calls Try.prog 52 #[.int .i64 x] w fun e w' => ∃ s, e = .returned (.string s) ∧ Below w.heap.size w w' := by
  have hx : ∃ r, Ev (fun k => laws_markText.f k x) r := by
    unfold laws_markText.f
    by_cases h : x ≤ 0
    · exact ⟨_, by simp only [if_pos h]; exact Ev.now _⟩
    · simp only [if_neg h]
      exact markText_l 19 x (⟨#[]⟩ : ByteArray) h0 (by omega) (by have : (10 : Int) ^ 19 = 10000000000000000000 := by decide
                                                                  omega) (by decide)
  obtain ⟨r, K, hK⟩ := hx; refine (laws_markText.calls K x r w (hK K (Nat.le_refl _))).mono ?_; rintro e w' ⟨rfl, hb⟩
  exact ⟨r, rfl, hb⟩
theorem mt_step {w0 w w3 w1 : World} {g m n i : Nat} {vs : Nat → Value} {P0_ : Nat → Prop} {q : Nat → Nat} {v : Value} (hO : OutC w3 g m n vs) (hN : ∀ j, j < n → Nst w3 (fun k => P0_ k ∧ k ≠ g) w0.heap.size (vs j) (q j)) (hB : Below w0.heap.size w0 w3) (hK : Kept w w3 (fun k_ => P0_ k_)) (hP : P0_ g) (hgb : w0.heap.size ≤ g) (hz : w.heap.size ≤ w3.heap.size) (hi : i < n) (hm : n * 5 ≤ m) (hv : vs i = v) (hb : Below w3.heap.size w3 w1) (s : ByteArray) :
    (∃ u3, w1.cell? ⟨g, i * 5 + 3, none⟩ = some u3) ∧ w1.frozen? ⟨g, i * 5 + 3, none⟩ = false ∧ (w1.setCell ⟨g, i * 5 + 3, none⟩ (.string s)).cell? ⟨g, i * 5 + 4, none⟩ = some v ∧ Aside0 (OutC (w1.setCell ⟨g, i * 5 + 3, none⟩ (.string s)) g m n vs) ∧ Aside0 (Below w0.heap.size w0 (w1.setCell ⟨g, i * 5 + 3, none⟩ (.string s))) ∧ Aside0 (Kept w (w1.setCell ⟨g, i * 5 + 3, none⟩ (.string s)) (fun k_ => P0_ k_)) ∧ Aside0 (∀ j, j < n → Nst (w1.setCell ⟨g, i * 5 + 3, none⟩ (.string s)) (fun k => P0_ k ∧ k ≠ g) w0.heap.size (vs j) (q j)) := by
  have HO4 := hO.below hb; refine ⟨HO4.blk.cell (by omega), HO4.blk.frozen _, ((HO4.set i 3 (by omega) _).at_ hi).trans (congrArg some hv), ⟨HO4.set i 3 (by omega) _⟩, ⟨below_set (below_step hB hb) hgb⟩, ⟨(hK.below hb).setCell (p := ⟨g, i * 5 + 3, none⟩) (.inl hP) _⟩, ⟨fun j hj => (hN j hj).move (fun g' m' hp hB => (hB.below hb).far hp.2 _ _)⟩⟩
set_option maxHeartbeats 8000000 in
set_option maxRecDepth 100000 in
theorem mf_any (P0_ : Nat → Prop) (u9000_ : Value) (l0 : List S28) (a1 : Int) (w0 w : World) (hB : Below w0.heap.size w0 w) (ho0 : Kd.R k28 28 w w0.heap.size P0_ u9000_ l0) (h0 : 0 ≤ a1) (hb : a1 + (mfT l0 : Int) < 4611686018427387904) :
    Calls Try.prog 22 #[u9000_, .int .i64 a1] w fun e w' => e = .returned (.int .i64 (a1 + (mfT l0 : Int))) ∧ Below w0.heap.size w0 w' ∧ Kept w w' (fun k_ => P0_ k_) := by
  by_cases hl : 0 < l0.length
  · obtain ⟨g, cap, m, vs, rfl, hPg, hgb, hm, hO, hN⟩ := out_of ho0 hl; have HO := Aside0.mk hO; have HN := Aside0.mk hN; have HB := Aside0.mk hB; have HK := Aside0.mk (Kept.refl w (fun k_ => P0_ k_)); clear hO hN hB ho0
    go_enter Try.func22, Try.ntmps22; go_wp2
    go_loopg [1, 5] l0.length (fun gk v1 v5 wr => ∃ i : Nat, i ≤ l0.length ∧ l0.length - i ≤ gk ∧ v1 = .int .i64 (a1 + (mfT (l0.take i) : Int)) ∧ v5 = .int .i64 (i : Int) ∧ Aside0 (OutC wr g m l0.length vs) ∧ Aside0 (∀ j, j < l0.length → Nst wr (fun k => P0_ k ∧ k ≠ g) w0.heap.size (vs j) (l0.getD j z28).f4.length) ∧ Aside0 (Below w0.heap.size w0 wr) ∧ Aside0 (Kept w wr (fun k_ => P0_ k_)))
    case atStart => exact ⟨0, Nat.zero_le _, Nat.le_refl _, by simp [mfT], rfl, HO, HN, HB, HK⟩
    case round =>
      obtain ⟨i, hi, hgk, rfl, rfl, HO, HN, HB, HK⟩ := hrel
      by_cases hlt : i < l0.length
      · have d1 : decide ((i : Int) < (l0.length : Int)) = true := decide_eq_true (by omega); have d2 : decide (0 ≤ (i : Int)) = true := decide_eq_true (by omega); have q0 : (0 ≤ (i : Int)) = True := eq_true (by omega); have q1 : ((i : Int) < (l0.length : Int)) = True := eq_true (by omega); have q2 : (i < l0.length) = True := eq_true hlt; have hb0 := HO.out.blk; obtain ⟨u0, hx0⟩ := hb0.cell (j := i * 5) (by omega); have hf0 := hb0.frozen (i * 5); obtain ⟨u1, hx1⟩ := hb0.cell (j := i * 5 + 1) (by omega); have hf1 := hb0.frozen (i * 5 + 1); obtain ⟨u2, hx2⟩ := hb0.cell (j := i * 5 + 2) (by omega); have hf2 := hb0.frozen (i * 5 + 2); obtain ⟨k1, rfl, hk1⟩ := mf_pred hgk hlt; have hi1 : i + 1 ≤ l0.length := hlt; have ht := mfT_take l0 i hlt; have hle := mfT_le l0 (i + 1); have hge := mfT_ge l0; generalize hT : mfT (l0.take i) = T at *; have hle0 := hle; clear hle; obtain ⟨y0, y1, y2, y3⟩ := mf_ar h0 hb ht hle0; obtain ⟨⟨z1, z2, z3, z4⟩, ⟨z5, z6, z7, z8⟩, e1, e2, e3, e4⟩ := mf_ar4 y0 y1; have e5 := mf_ar5 h0 hb hge hlt; have hz : w.heap.size ≤ wr.heap.size := HK.out.1; have HO3 : OutC (((wr.setCell ⟨g, i * 5, none⟩ (.int .i64 (a1 + (T : Int)))).setCell ⟨g, i * 5 + 1, none⟩ (.int .i64 (a1 + (T : Int) + 1))).setCell ⟨g, i * 5 + 2, none⟩ (.int .i64 (a1 + (T : Int) + 1 + 1))) g m l0.length vs := ((HO.out.set i 0 (by omega) _).set i 1 (by omega) _).set i 2 (by omega) _; have HB3 : Below w0.heap.size w0 (((wr.setCell ⟨g, i * 5, none⟩ (.int .i64 (a1 + (T : Int)))).setCell ⟨g, i * 5 + 1, none⟩ (.int .i64 (a1 + (T : Int) + 1))).setCell ⟨g, i * 5 + 2, none⟩ (.int .i64 (a1 + (T : Int) + 1 + 1))) := below_set (below_set (below_set HB.out hgb) hgb) hgb
        have HK3 : Kept w (((wr.setCell ⟨g, i * 5, none⟩ (.int .i64 (a1 + (T : Int)))).setCell ⟨g, i * 5 + 1, none⟩ (.int .i64 (a1 + (T : Int) + 1))).setCell ⟨g, i * 5 + 2, none⟩ (.int .i64 (a1 + (T : Int) + 1 + 1))) (fun k_ => P0_ k_) := ((HK.out.setCell (.inl hPg) _).setCell (.inl hPg) _).setCell (.inl hPg) _; have HN3 : ∀ j, j < l0.length → Nst (((wr.setCell ⟨g, i * 5, none⟩ (.int .i64 (a1 + (T : Int)))).setCell ⟨g, i * 5 + 1, none⟩ (.int .i64 (a1 + (T : Int) + 1))).setCell ⟨g, i * 5 + 2, none⟩ (.int .i64 (a1 + (T : Int) + 1 + 1))) (fun k => P0_ k ∧ k ≠ g) w0.heap.size (vs j) (l0.getD j z28).f4.length := fun j hj => (HN.out j hj).move (fun g' m' hp hB => ((hB.far hp.2 _ _).far hp.2 _ _).far hp.2 _ _)
        have hz3 := HK3.1; replace HO3 := Aside0.mk HO3; replace HB3 := Aside0.mk HB3; replace HK3 := Aside0.mk HK3; replace HN3 := Aside0.mk HN3; clear HO HB HK hb0
        rcases HN.out i hlt with ⟨hv, hlen⟩ | ⟨g4, cap4, m4, hv, hP4, hb4, hm4, hB4⟩
        · clear HN; go_wp2_with (first
            | (go_at_call 52; refine (mtx _ z3 z7 _).mono ?_; rintro e w1 ⟨s, rfl, hb⟩; obtain ⟨⟨u3, hx3⟩, hf3, hx4, HO5, HB5, HK5, HN5⟩ := mt_step HO3.out HN3.out HB3.out HK3.out hPg hgb hz3 hlt hm hv hb s; clear hb HO3 HB3 HN3 HK3))
          go_at_call 47; refine (mp_none _ _ _).mono ?_; rintro e w2 ⟨rfl, rfl⟩; clear hx0 hx1 hx2 hx3 hx4 hf0 hf1 hf2 hf3 hv e1 e2 e3 e4 ht hge hle0 y0 y1 y3 z1 z2 z3 z4 z5 z6 z7 z8; generalize w1.setCell _ _ = W at *; go_wp2
          go_roundg k1
          case measure => omega
          case rel => exact ⟨i + 1, hi1, hk1, by rw [← y2, hlen]; simp, by rw [e5], HO5, HN5, HB5, HK5⟩
        · clear HN; generalize hln : (l0.getD i z28).f4.length = len at hv hm4 y2 y3 ht; go_wp2_with (first
            | (go_at_call 52; refine (mtx _ z3 z7 _).mono ?_; rintro e w1 ⟨s, rfl, hb⟩; obtain ⟨⟨u3, hx3⟩, hf3, hx4, HO5, HB5, HK5, HN5⟩ := mt_step HO3.out HN3.out HB3.out HK3.out hPg hgb hz3 hlt hm hv hb s; have hB5 := Aside0.mk ((((((hB4.far hP4.2 (i * 5) (.int .i64 (a1 + (T : Int)))).far hP4.2 (i * 5 + 1) (.int .i64 (a1 + (T : Int) + 1))).far hP4.2 (i * 5 + 2) (.int .i64 (a1 + (T : Int) + 1 + 1))).below hb).far hP4.2 (i * 5 + 3) (.string s))); clear hb HO3 HB3 HN3 HK3))
          go_at_call 47; refine (mp_weak g4 cap4 _ m4 _ _ hB5.out hm4 z4 y3).mono ?_; rintro e w2 ⟨rfl, hg4, hB6⟩; have hg5 := Aside0.mk hg4; have hB7 := Aside0.mk hB6; clear hx0 hx1 hx2 hx3 hx4 hf0 hf1 hf2 hf3 hv e1 e2 e3 e4 ht hge hle0 y0 y1 y3 z1 z2 z3 z4 z5 z6 z7 z8 hg4 hB6; generalize w1.setCell _ _ = W at *; go_wp2
          go_roundg k1
          case measure => omega
          case rel => exact ⟨i + 1, hi1, hk1, by rw [← y2], by rw [e5], ⟨HO5.out.grown hg5.out (Ne.symm hP4.2)⟩, ⟨fun j hj => (HN5.out j hj).move (fun g' m' hp hB => hB.grown hg5.out hB5.out hB7.out)⟩, ⟨HB5.out.grown hg5.out HB5.out.size (fun k hk => by cases hk; exact hb4)⟩, ⟨Kept.of_grown hg5.out HK5.out (fun k hk => by cases hk; exact .inl hP4.1)⟩⟩
      · have hin : i = l0.length := by omega
        have d1 : decide ((i : Int) < (l0.length : Int)) = false := decide_eq_false (by omega); have d2 : (l0.length ≤ i) = True := eq_true (by omega); go_wp2; go_ret
        exact ⟨by rw [List.take_of_length_le (by omega)]; rfl, HB.out, HK.out⟩
  · have h1 : l0 = [] := List.eq_nil_of_length_eq_zero (by omega); subst h1; obtain ⟨A, c, rfl⟩ := Kd.R_slice ho0; have HB := Aside0.mk hB; have HK := Aside0.mk (Kept.refl w (fun k_ => P0_ k_)); clear hB ho0
    go_enter Try.func22, Try.ntmps22; go_wp2
    go_loopg [1, 5] 0 (fun gk v1 v5 wr => v1 = .int .i64 a1 ∧ v5 = .int .i64 0 ∧ wr = w)
    case atStart => exact ⟨rfl, rfl, rfl⟩
    case round =>
      obtain ⟨rfl, rfl, rfl⟩ := hrel; have d1 : decide ((0 : Int) < ((([] : List S28).length : Nat) : Int)) = false := decide_eq_false (by simp); go_wp2; go_ret
      exact ⟨by simp [mfT], HB.out, HK.out⟩
end
end Go.Proofs.Ytkebhlkbnnlegaa.PFnExactShrinkFeature
