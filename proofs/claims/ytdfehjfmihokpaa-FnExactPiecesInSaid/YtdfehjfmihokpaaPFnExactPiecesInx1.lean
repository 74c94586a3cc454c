-- Written by a program of this session's (evlaw.py).
import Derived.Test.YtdfehjfmihokpaaPFnExactPiecesInx0
import Derived.Test.YtdfehjfmihokpaaEvX
import Derived.Test.YtdfehjfmihokpaaZ
import Derived.Test.YtdfehjfmihokpaaProg
import Derived.Below
import Derived.Deep.Draws
import Derived.Deep.AppendLies
import Derived.Maps.AppendAt
import Derived.OwnWalk
import Derived.Laws.BytesArg
import Derived.Laws.MakeOwn
import Derived.Laws.OwnMore
import Derived.Deep.OwnRows
import Derived.Tactics
import Derived.Lib.ConvBytes
import Derived.Laws.Slices
import Derived.WalkKit
import Derived.KernelRfl
import Derived.RowKit3
import Derived.Deep.LoopGhost
import Derived.Deep.QuietTactic
import Derived.BigQuiet
import Derived.WideLaws
import Derived.Deep.DeepCutAuto
import Derived.Deep.CutBlock
import Derived.Deep.RegionHeld3
import Derived.Laws.Rows
import Derived.Lib.AppendStr
import Derived.ArgAppend
import Derived.Laws.IdiomCopy
import Derived.OrdersHeld
import Derived.Laws.BitsLemmas
import Derived.RowKit
import Derived.Test.YtdfehjfmihokpaaGeo
import Derived.Test.YtdfehjfmihokpaaHand
import Derived.Test.YtdfehjfmihokpaaMeet
import Derived.Test.YtdfehjfmihokpaaQuiet
import Derived.Test.YtdfehjfmihokpaaWWords
import Derived.Test.YtdfehjfmihokpaaWLast
import Derived.Test.YtdfehjfmihokpaaWTab
import Derived.Test.YtdfehjfmihokpaaWFour
import Derived.Test.YtdfehjfmihokpaaWQPut
import Derived.Test.YtdfehjfmihokpaaWApart
import Derived.Test.YtdfehjfmihokpaaWArr
import Derived.Test.YtdfehjfmihokpaaWZeros
import Derived.Test.YtdfehjfmihokpaaWFoot
import Derived.Test.YtdfehjfmihokpaaWKept
import Derived.Test.YtdfehjfmihokpaaWShare
import Derived.Test.YtdfehjfmihokpaaWN
import Derived.Test.YtdfehjfmihokpaaWFootNe
import Derived.Test.YtdfehjfmihokpaaWAt
import Derived.Test.YtdfehjfmihokpaaWEqStruct
import Derived.Test.YtdfehjfmihokpaaWRepsOne
import Derived.Test.YtdfehjfmihokpaaWInv
import Derived.Test.YtdfehjfmihokpaaWInvWords
import Derived.Test.YtdfehjfmihokpaaWGuard
import Derived.Test.YtdfehjfmihokpaaWNEv
import Derived.Test.YtdfehjfmihokpaaWMore
import Derived.Test.YtdfehjfmihokpaaTwo
namespace Go.Proofs.Ytdfehjfmihokpaa.PFnExactPiecesIn
open Go.RowKit Go.Proofs.YtdfehjfmihokpaaW.PrintWords Go.Proofs.YtdfehjfmihokpaaW.PrintLast Go.Proofs.YtdfehjfmihokpaaW.PrintMore Go.Proofs.YtdfehjfmihokpaaGeo Go.Proofs.YtdfehjfmihokpaaHand Go.Proofs.YtdfehjfmihokpaaMeet Go.Proofs.YtdfehjfmihokpaaQuiet Go.Proofs.YtdfehjfmihokpaaZ Go.Proofs.YtdfehjfmihokpaaTwo
open Go Go.Proofs.YtdfehjfmihokpaaEv
attribute [local go_sem] max2_int min2_int max_two min_two max_three min_three max_four min_four   -- for this text's walks alone
set_option linter.unusedVariables false
set_option linter.unusedSimpArgs false



set_option linter.unusedSimpArgs false

attribute [local go_sem high] eqA82
set_option linter.unusedVariables false
set_option linter.unusedSimpArgs false
set_option maxRecDepth 100000
noncomputable section
set_option maxHeartbeats 8000000 in
set_option maxRecDepth 100000 in
theorem laws_markText.calls (k : Nat) (a0 : Int) (r : ByteArray) (w : World) (h : laws_markText.f k a0 = some r) :
  Calls Try.prog 88 #[.int .i64 a0] w fun e w' => e = .returned (.string r) ∧ Below w.heap.size w w' := by
 have HB := Aside0.mk (Below.refl w.heap.size w); have H : (if a0 ≤ 0 then (some (⟨#[109, 48]⟩ : ByteArray)) else (laws_markText.l0 k a0 (⟨#[]⟩ : ByteArray))) = some r := h; clear h
 by_cases c2 : a0 ≤ 0
 ·rw [if_pos c2] at H; have c2b0 := decide_eq_true c2; clear c2; obtain rfl := Option.some.inj H
  go_enter Try.func88, Try.ntmps88; go_wp2; go_ret
  exact ⟨ez, bz⟩
 ·rw [if_neg c2] at H; have c2b0 := decide_eq_false c2; clear c2; have H' := Aside0.mk H; clear H
  go_enter Try.func88, Try.ntmps88; go_wp2
  go_loopg [0, 3] k (fun kq v0 v3 w' => ∃ (x0_1 : Int) (x3_1 : ByteArray), v0 = .int .i64 x0_1 ∧ v3 = .string x3_1 ∧ Aside0 (laws_markText.l0 kq x0_1 x3_1 = some r) ∧ Aside0 (kq ≤ k) ∧ Aside0 (Below w.heap.size w w'))
  case atStart => exact ⟨(a0), ((⟨#[]⟩ : ByteArray)), rz, rz, H', ⟨Nat.le_refl _⟩, ⟨bz⟩⟩
  case round =>
   clear H'; (try clear c2); (try clear c2b0); (try clear p2); obtain ⟨x0_1, x3_1, rfl, rfl, HA, HK1, HB⟩ := hrel
   cases gk with
   | zero => exact absurd HA.out (by simp [laws_markText.l0])
   | succ k1 =>
    have H := HA.out; clear HA; simp only [laws_markText.l0] at H
    by_cases c3 : x0_1 > 0
    ·rw [if_pos c3] at H; have c3b0 := decide_eq_true c3; clear c3; obtain ⟨y144, hy144⟩ : ∃ y_ : List Int, y_ = (([(wrap64 (48 + (Int.tmod x0_1 10))) % 256] : List Int)) := ⟨_, rfl⟩
     replace H : (if (strOfNums y144).size + x3_1.size ≤ 9223372036854775807 then (laws_markText.l0 k1 (wrap64 (Int.tdiv x0_1 10)) ((strOfNums y144) ++ x3_1)) else (none)) = some r := by first | (rw [hy144]; with_reducible exact H) | (have H2_ := (Option.bind_some _ _).symm.trans H; rw [hy144]; with_reducible exact H2_) | (have H2_ := (Option.bind_some _ _).symm.trans H; with_reducible exact H2_) | with_reducible exact H | (rw [hy144]; exact H) | exact H
     have Ny144 := Aside0.mk hy144; clear hy144
     by_cases c4 : (strOfNums y144).size + x3_1.size ≤ 9223372036854775807
     ·rw [if_pos c4] at H; have c4b0 := eq_true c4; have c4b1 := decide_eq_true c4; (try have c4b2 : (9223372036854775807 < (strOfNums y144).size + x3_1.size) = False := eq_false (Nat.not_lt.2 c4)); have H' := Aside0.mk H; clear H; go_wp2_with (first | ((with_reducible refine gate_dst (N := 12) rfl ?_); refine Kd.R_lit (Kd.int .u8) _ 5 ?hg (N := 12) ?hd (xs := ([(wrap64 (48 + (Int.tmod x0_1 10))) % 256] : List Int)) (inner := [.int .u8 ((wrap64 (48 + (Int.tmod x0_1 10))) % 256)]) (ok := fun _ => True) (okp := fun _ => True) ?hr ?hp (fun _ hk => hk) trivial (Below.refl _ _) (Nat.le_refl _) (by simp) ?_; (case hd => rfl); (case hg => rfl); (case hr => first | (go_simp; done) | (go_simp; rfl)); (case hp => exact (Reps.one (show Kd.M (Kd.int .u8) _ _ _ ((wrap64 (48 + (Int.tmod x0_1 10))) % 256) [.int .u8 ((wrap64 (48 + (Int.tmod x0_1 10))) % 256)] from rfl) (Reps.none _ _))); intro v145 w5 ho6 hb hg_ hnew_; clear hg_ hnew_; (first | rw [← Ny144.out] at ho6 | (simp only [Int.reduceToNat] at ho6; rw [← Ny144.out] at ho6)); have HO146 := Aside0.mk (Kd.R_lower ho6 (below_size bz)); replace HB := Aside0.mk (below_step bz hb); clear hb ho6; have hcv7 := own_string (P := Try.prog) Try.underlying126 Try.underlying5 Try.underlying9 (Kd.own_of_R HO146.out)))
      go_roundg k1
      case measure => have := HK1.out; omega
      case rel => exact ⟨(wrap64 (Int.tdiv x0_1 10)), ((strOfNums y144) ++ x3_1), rz, rz, H', ⟨by have := HK1.out; omega⟩, ⟨bz⟩⟩
     ·rw [if_neg c4] at H
      exact absurd H (by simp)
    ·rw [if_neg c3] at H; have c3b0 := decide_eq_false c3; clear c3
     by_cases c8 : 1 + x3_1.size ≤ 9223372036854775807
     ·rw [if_pos c8] at H; have c8b0 := eq_true c8; have c8b1 := decide_eq_true c8; (try have c8b2 : (9223372036854775807 < 1 + x3_1.size) = False := eq_false (Nat.not_lt.2 c8)); obtain rfl := Option.some.inj H; go_wp2; go_ret
      exact ⟨ez, bz⟩
     ·rw [if_neg c8] at H
      exact absurd H (by simp)
set_option maxHeartbeats 4000000 in
theorem mp_weak (g cap n m : Nat) (x : Int) (w : World) (hg : Blk w g m 82) (hn : 2 * n ≤ m) (hx : 0 ≤ x) (hb : x + 2 * (n : Int) < 4611686018427387904) :
    Calls Try.prog 81 #[.slice (some ⟨g, 0, none⟩) n cap, .int .i64 x] w fun e w' => e = .returned (.int .i64 (x + 2 * (n : Int))) ∧ w.grownBy w' (some g) ∧ Blk w' g m 82 := by
  have HG := Aside0.mk hg; have HW := Aside0.mk (World.grownBy.refl w (some g)); clear hg
  go_enter Try.func81, Try.ntmps81; go_wp2
  go_loopg [1, 5] n (fun gk v1 v5 wr => ∃ i : Nat, i ≤ n ∧ n - i ≤ gk ∧ v1 = .int .i64 (x + 2 * (i : Int)) ∧ v5 = .int .i64 (i : Int) ∧ Aside0 (w.grownBy wr (some g)) ∧ Aside0 (Blk wr g m 82))
  case atStart => exact ⟨0, Nat.zero_le _, Nat.le_refl _, by simp, rfl, HW, HG⟩
  case round =>
    obtain ⟨i, hi, hgk, rfl, rfl, HW, HG⟩ := hrel
    by_cases hlt : i < n
    · have d1 : decide ((i : Int) < (n : Int)) = true := decide_eq_true (by omega); have d2 : decide (0 ≤ (i : Int)) = true := decide_eq_true (by omega); have q0 : (0 ≤ (i : Int)) = True := eq_true (by omega); have q1 : ((i : Int) < (n : Int)) = True := eq_true (by omega); have q2 : (i < n) = True := eq_true hlt; obtain ⟨u0, hx0⟩ := HG.out.cell (j := i * 2) (by omega); have hf0 := HG.out.frozen (i * 2); obtain ⟨u1, hx1⟩ := HG.out.cell (j := i * 2 + 1) (by omega); have hf1 := HG.out.frozen (i * 2 + 1); have e1 : wrap64 (x + 2 * (i : Int) + 1) = x + 2 * (i : Int) + 1 := by unfold wrap64; omega
      have e2 : wrap64 (x + 2 * (i : Int) + 1 + 1) = x + 2 * ((i + 1 : Nat) : Int) := by unfold wrap64; omega
      have e3 : wrap64 ((i : Int) + 1) = ((i + 1 : Nat) : Int) := by unfold wrap64; omega
      obtain ⟨k1, rfl⟩ : ∃ k1, gk = k1 + 1 := ⟨gk - 1, by omega⟩
      go_wp2
      go_roundg k1
      case measure => omega
      case rel => exact ⟨i + 1, by omega, by omega, by congr 1; omega, rfl, ⟨grown_set (grown_set HW.out _ _) _ _⟩, ⟨(HG.out.set _ _).set _ _⟩⟩
    · have hin : i = n := by omega
      subst hin; have d1 : decide ((i : Int) < (i : Int)) = false := decide_eq_false (by omega); go_wp2; go_ret
      exact ⟨rfl, HW.out, HG.out⟩
theorem mp_none (cap : Nat) (x : Int) (w : World) : Calls Try.prog 81 #[.slice none 0 cap, .int .i64 x] w fun e w' => e = .returned (.int .i64 x) ∧ w' = w := by
  go_enter Try.func81, Try.ntmps81; go_wp2
  go_loopg [1, 5] 0 (fun gk v1 v5 wr => v1 = .int .i64 x ∧ v5 = .int .i64 0 ∧ wr = w)
  case atStart => exact ⟨rfl, rfl, rfl⟩
  case round =>
    obtain ⟨rfl, rfl, rfl⟩ := hrel; go_wp2; go_ret
    exact ⟨rfl, rfl⟩
theorem mtx (x : Int) (h0 : 0 ≤ x) (h1 : x ≤ 4611686018427387904) (w : World) : Calls Try.prog 88 #[.int .i64 x] w fun e w' => ∃ s, e = .returned (.string s) ∧ Below w.heap.size w w' := by
  have hx : ∃ r, Ev (fun k => laws_markText.f k x) r := by
    unfold laws_markText.f
    by_cases h : x ≤ 0
    · exact ⟨_, by simp only [if_pos h]; exact Ev.now _⟩
    · simp only [if_neg h]
      exact markText_l 19 x (⟨#[]⟩ : ByteArray) h0 (by omega) (by have : (10 : Int) ^ 19 = 10000000000000000000 := by decide
                                                                  omega) (by decide)
  obtain ⟨r, K, hK⟩ := hx; refine (laws_markText.calls K x r w (hK K (Nat.le_refl _))).mono ?_; rintro e w' ⟨rfl, hb⟩
  exact ⟨r, rfl, hb⟩
theorem mt_step {w0 w w3 w1 : World} {g m n i : Nat} {vs : Nat → Value} {P0_ : Nat → Prop} {q : Nat → Nat} {v : Value} (hO : OutC w3 g m n vs) (hN : ∀ j, j < n → Nst w3 (fun k => P0_ k ∧ k ≠ g) w0.heap.size (vs j) (q j)) (hB : Below w0.heap.size w0 w3) (hK : Kept w w3 (fun k_ => P0_ k_)) (hP : P0_ g) (hgb : w0.heap.size ≤ g) (hz : w.heap.size ≤ w3.heap.size) (hi : i < n) (hm : n * 5 ≤ m) (hv : vs i = v) (hb : Below w3.heap.size w3 w1) (s : ByteArray) :
    (∃ u3, w1.cell? ⟨g, i * 5 + 3, none⟩ = some u3) ∧ w1.frozen? ⟨g, i * 5 + 3, none⟩ = false ∧ (w1.setCell ⟨g, i * 5 + 3, none⟩ (.string s)).cell? ⟨g, i * 5 + 4, none⟩ = some v ∧ Aside0 (OutC (w1.setCell ⟨g, i * 5 + 3, none⟩ (.string s)) g m n vs) ∧ Aside0 (Below w0.heap.size w0 (w1.setCell ⟨g, i * 5 + 3, none⟩ (.string s))) ∧ Aside0 (Kept w (w1.setCell ⟨g, i * 5 + 3, none⟩ (.string s)) (fun k_ => P0_ k_)) ∧ Aside0 (∀ j, j < n → Nst (w1.setCell ⟨g, i * 5 + 3, none⟩ (.string s)) (fun k => P0_ k ∧ k ≠ g) w0.heap.size (vs j) (q j)) := by
  have HO4 := hO.below hb; refine ⟨HO4.blk.cell (by omega), HO4.blk.frozen _, ((HO4.set i 3 (by omega) _).at_ hi).trans (congrArg some hv), ⟨HO4.set i 3 (by omega) _⟩, ⟨below_set (below_step hB hb) hgb⟩, ⟨(hK.below hb).setCell (p := ⟨g, i * 5 + 3, none⟩) (.inl hP) _⟩, ⟨fun j hj => (hN j hj).move (fun g' m' hp hB => (hB.below hb).far hp.2 _ _)⟩⟩
set_option maxHeartbeats 8000000 in
set_option maxRecDepth 100000 in
theorem mf_any (P0_ : Nat → Prop) (u9000_ : Value) (l0 : List S29) (a1 : Int) (w0 w : World) (hB : Below w0.heap.size w0 w) (ho0 : Kd.R k29 29 w w0.heap.size P0_ u9000_ l0) (h0 : 0 ≤ a1) (hb : a1 + (mfT l0 : Int) < 4611686018427387904) :
    Calls Try.prog 32 #[u9000_, .int .i64 a1] w fun e w' => e = .returned (.int .i64 (a1 + (mfT l0 : Int))) ∧ Below w0.heap.size w0 w' ∧ Kept w w' (fun k_ => P0_ k_) := by
  by_cases hl : 0 < l0.length
  · obtain ⟨g, cap, m, vs, rfl, hPg, hgb, hm, hO, hN⟩ := out_of ho0 hl; have HO := Aside0.mk hO; have HN := Aside0.mk hN; have HB := Aside0.mk hB; have HK := Aside0.mk (Kept.refl w (fun k_ => P0_ k_)); clear hO hN hB ho0
    go_enter Try.func32, Try.ntmps32; go_wp2
    go_loopg [1, 5] l0.length (fun gk v1 v5 wr => ∃ i : Nat, i ≤ l0.length ∧ l0.length - i ≤ gk ∧ v1 = .int .i64 (a1 + (mfT (l0.take i) : Int)) ∧ v5 = .int .i64 (i : Int) ∧ Aside0 (OutC wr g m l0.length vs) ∧ Aside0 (∀ j, j < l0.length → Nst wr (fun k => P0_ k ∧ k ≠ g) w0.heap.size (vs j) (l0.getD j z29).f4.length) ∧ Aside0 (Below w0.heap.size w0 wr) ∧ Aside0 (Kept w wr (fun k_ => P0_ k_)))
    case atStart => exact ⟨0, Nat.zero_le _, Nat.le_refl _, by simp [mfT], rfl, HO, HN, HB, HK⟩
    case round =>
      obtain ⟨i, hi, hgk, rfl, rfl, HO, HN, HB, HK⟩ := hrel
      by_cases hlt : i < l0.length
      · have d1 : decide ((i : Int) < (l0.length : Int)) = true := decide_eq_true (by omega); have d2 : decide (0 ≤ (i : Int)) = true := decide_eq_true (by omega); have q0 : (0 ≤ (i : Int)) = True := eq_true (by omega); have q1 : ((i : Int) < (l0.length : Int)) = True := eq_true (by omega); have q2 : (i < l0.length) = True := eq_true hlt; have hb0 := HO.out.blk; obtain ⟨u0, hx0⟩ := hb0.cell (j := i * 5) (by omega); have hf0 := hb0.frozen (i * 5); obtain ⟨u1, hx1⟩ := hb0.cell (j := i * 5 + 1) (by omega); have hf1 := hb0.frozen (i * 5 + 1); obtain ⟨u2, hx2⟩ := hb0.cell (j := i * 5 + 2) (by omega); have hf2 := hb0.frozen (i * 5 + 2); obtain ⟨k1, rfl, hk1⟩ := mf_pred hgk hlt; have hi1 : i + 1 ≤ l0.length := hlt; have ht := mfT_take l0 i hlt; have hle := mfT_le l0 (i + 1); have hge := mfT_ge l0; generalize hT : mfT (l0.take i) = T at *; have hle0 := hle; clear hle; obtain ⟨y0, y1, y2, y3⟩ := mf_ar h0 hb ht hle0; obtain ⟨⟨z1, z2, z3, z4⟩, ⟨z5, z6, z7, z8⟩, e1, e2, e3, e4⟩ := mf_ar4 y0 y1; have e5 := mf_ar5 h0 hb hge hlt; have hz : w.heap.size ≤ wr.heap.size := HK.out.1; have HO3 : OutC (((wr.setCell ⟨g, i * 5, none⟩ (.int .i64 (a1 + (T : Int)))).setCell ⟨g, i * 5 + 1, none⟩ (.int .i64 (a1 + (T : Int) + 1))).setCell ⟨g, i * 5 + 2, none⟩ (.int .i64 (a1 + (T : Int) + 1 + 1))) g m l0.length vs := ((HO.out.set i 0 (by omega) _).set i 1 (by omega) _).set i 2 (by omega) _; have HB3 : Below w0.heap.size w0 (((wr.setCell ⟨g, i * 5, none⟩ (.int .i64 (a1 + (T : Int)))).setCell ⟨g, i * 5 + 1, none⟩ (.int .i64 (a1 + (T : Int) + 1))).setCell ⟨g, i * 5 + 2, none⟩ (.int .i64 (a1 + (T : Int) + 1 + 1))) := below_set (below_set (below_set HB.out hgb) hgb) hgb
        have HK3 : Kept w (((wr.setCell ⟨g, i * 5, none⟩ (.int .i64 (a1 + (T : Int)))).setCell ⟨g, i * 5 + 1, none⟩ (.int .i64 (a1 + (T : Int) + 1))).setCell ⟨g, i * 5 + 2, none⟩ (.int .i64 (a1 + (T : Int) + 1 + 1))) (fun k_ => P0_ k_) := ((HK.out.setCell (.inl hPg) _).setCell (.inl hPg) _).setCell (.inl hPg) _; have HN3 : ∀ j, j < l0.length → Nst (((wr.setCell ⟨g, i * 5, none⟩ (.int .i64 (a1 + (T : Int)))).setCell ⟨g, i * 5 + 1, none⟩ (.int .i64 (a1 + (T : Int) + 1))).setCell ⟨g, i * 5 + 2, none⟩ (.int .i64 (a1 + (T : Int) + 1 + 1))) (fun k => P0_ k ∧ k ≠ g) w0.heap.size (vs j) (l0.getD j z29).f4.length := fun j hj => (HN.out j hj).move (fun g' m' hp hB => ((hB.far hp.2 _ _).far hp.2 _ _).far hp.2 _ _)
        have hz3 := HK3.1; replace HO3 := Aside0.mk HO3; replace HB3 := Aside0.mk HB3; replace HK3 := Aside0.mk HK3; replace HN3 := Aside0.mk HN3; clear HO HB HK hb0
        rcases HN.out i hlt with ⟨hv, hlen⟩ | ⟨g4, cap4, m4, hv, hP4, hb4, hm4, hB4⟩
        · clear HN; go_wp2_with (first
            | (go_at_call 88; refine (mtx _ z3 z7 _).mono ?_; rintro e w1 ⟨s, rfl, hb⟩; obtain ⟨⟨u3, hx3⟩, hf3, hx4, HO5, HB5, HK5, HN5⟩ := mt_step HO3.out HN3.out HB3.out HK3.out hPg hgb hz3 hlt hm hv hb s; clear hb HO3 HB3 HN3 HK3))
          go_at_call 81; refine (mp_none _ _ _).mono ?_; rintro e w2 ⟨rfl, rfl⟩; clear hx0 hx1 hx2 hx3 hx4 hf0 hf1 hf2 hf3 hv e1 e2 e3 e4 ht hge hle0 y0 y1 y3 z1 z2 z3 z4 z5 z6 z7 z8; generalize w1.setCell _ _ = W at *; go_wp2
          go_roundg k1
          case measure => omega
          case rel => exact ⟨i + 1, hi1, hk1, by rw [← y2, hlen]; simp, by rw [e5], HO5, HN5, HB5, HK5⟩
        · clear HN; generalize hln : (l0.getD i z29).f4.length = len at hv hm4 y2 y3 ht; go_wp2_with (first
            | (go_at_call 88; refine (mtx _ z3 z7 _).mono ?_; rintro e w1 ⟨s, rfl, hb⟩; obtain ⟨⟨u3, hx3⟩, hf3, hx4, HO5, HB5, HK5, HN5⟩ := mt_step HO3.out HN3.out HB3.out HK3.out hPg hgb hz3 hlt hm hv hb s; have hB5 := Aside0.mk ((((((hB4.far hP4.2 (i * 5) (.int .i64 (a1 + (T : Int)))).far hP4.2 (i * 5 + 1) (.int .i64 (a1 + (T : Int) + 1))).far hP4.2 (i * 5 + 2) (.int .i64 (a1 + (T : Int) + 1 + 1))).below hb).far hP4.2 (i * 5 + 3) (.string s))); clear hb HO3 HB3 HN3 HK3))
          go_at_call 81; refine (mp_weak g4 cap4 _ m4 _ _ hB5.out hm4 z4 y3).mono ?_; rintro e w2 ⟨rfl, hg4, hB6⟩; have hg5 := Aside0.mk hg4; have hB7 := Aside0.mk hB6; clear hx0 hx1 hx2 hx3 hx4 hf0 hf1 hf2 hf3 hv e1 e2 e3 e4 ht hge hle0 y0 y1 y3 z1 z2 z3 z4 z5 z6 z7 z8 hg4 hB6; generalize w1.setCell _ _ = W at *; go_wp2
          go_roundg k1
          case measure => omega
          case rel => exact ⟨i + 1, hi1, hk1, by rw [← y2], by rw [e5], ⟨HO5.out.grown hg5.out (Ne.symm hP4.2)⟩, ⟨fun j hj => (HN5.out j hj).move (fun g' m' hp hB => hB.grown hg5.out hB5.out hB7.out)⟩, ⟨HB5.out.grown hg5.out HB5.out.size (fun k hk => by cases hk; exact hb4)⟩, ⟨Kept.of_grown hg5.out HK5.out (fun k hk => by cases hk; exact .inl hP4.1)⟩⟩
      · have hin : i = l0.length := by omega
        have d1 : decide ((i : Int) < (l0.length : Int)) = false := decide_eq_false (by omega); have d2 : (l0.length ≤ i) = True := eq_true (by omega); go_wp2; go_ret
        exact ⟨by rw [List.take_of_length_le (by omega)]; rfl, HB.out, HK.out⟩
  · have h1 : l0 = [] := List.eq_nil_of_length_eq_zero (by omega); subst h1; obtain ⟨A, c, rfl⟩ := Kd.R_slice ho0; have HB := Aside0.mk hB; have HK := Aside0.mk (Kept.refl w (fun k_ => P0_ k_)); clear hB ho0
    go_enter Try.func32, Try.ntmps32; go_wp2
    go_loopg [1, 5] 0 (fun gk v1 v5 wr => v1 = .int .i64 a1 ∧ v5 = .int .i64 0 ∧ wr = w)
    case atStart => exact ⟨rfl, rfl, rfl⟩
    case round =>
      obtain ⟨rfl, rfl, rfl⟩ := hrel; have d1 : decide ((0 : Int) < ((([] : List S29).length : Nat) : Int)) = false := decide_eq_false (by simp); go_wp2; go_ret
      exact ⟨by simp [mfT], HB.out, HK.out⟩
theorem laws_markFeatureS.calls (P0_ : Nat → Prop) (u9000_ : Value) (l0 : List S29) (a1 : Int) (r : Int) (w0 w : World) (hB : Below w0.heap.size w0 w) (ho0 : Kd.R k29 29 w w0.heap.size P0_ u9000_ l0) (h : laws_markFeatureS.f l0 a1 = some r) :
    Calls Try.prog 32 #[u9000_, .int .i64 a1] w fun e w' => e = .returned (.int .i64 r) ∧ Below w0.heap.size w0 w' ∧ Kept w w' (fun k_ => P0_ k_) := by
  unfold laws_markFeatureS.f at h
  split at h
  · rename_i hc
    obtain rfl := Option.some.inj h
    exact mf_any P0_ u9000_ l0 a1 w0 w hB ho0 hc.1 hc.2
  · cases h
set_option maxHeartbeats 8000000 in
set_option maxRecDepth 100000 in
theorem laws_markPieceS.calls (k : Nat) (P0_ : Nat → Prop) (u9000_ : Value) (l0 : List (S110)) (a1 : Int) (r1 : Int) (r2 : List (S110)) (w0 w : World) (hB : Below w0.heap.size w0 w) (ho0 : Kd.R k110 110 w w0.heap.size P0_ u9000_ l0) (h : laws_markPieceS.f k l0 a1 = some (r1, r2)) :
  Calls Try.prog 50 #[u9000_, .int .i64 a1] w fun e w' => e = .returned (.int .i64 r1) ∧ Kd.R k110 110 w' w0.heap.size (fun k_ => (P0_ k_ ∨ w.heap.size ≤ k_)) u9000_ r2 ∧ Below w0.heap.size w0 w' ∧ Kept w w' (fun k_ => P0_ k_) := by
 have HO0 := Aside0.mk (show Kd.R k110 110 w w0.heap.size (fun k_ => (P0_ k_ ∨ w.heap.size ≤ k_)) u9000_ l0 from Kd.R_mono ho0 (fun k_ hk => (.inl hk))); have HK := Aside0.mk (Kept.refl w (fun k_ => P0_ k_)); have HW0 := Aside0.mk hB.size; have HB := Aside0.mk hB; clear hB; have H : (laws_markPieceS.l0 k l0 a1 0) = some (r1, r2) := h; clear h; have H' := Aside0.mk H; clear H
 go_enter Try.func50, Try.ntmps50; go_wp2
 go_loopg [1, 5] k (fun kq v1 v5 w' => ∃ (x0_1 : List (S110)) (x1_1 : Int) (x5_1 : Int), v1 = .int .i64 x1_1 ∧ v5 = .int .i64 x5_1 ∧ Aside0 (laws_markPieceS.l0 kq x0_1 x1_1 x5_1 = some (r1, r2)) ∧ Aside0 (kq ≤ k) ∧ Aside0 (Kd.R k110 110 w' w0.heap.size (fun k_ => (P0_ k_ ∨ w.heap.size ≤ k_)) u9000_ x0_1) ∧ Aside0 (Kept w w' (fun k_ => P0_ k_)) ∧ Aside0 (Below w0.heap.size w0 w'))
 case atStart => exact ⟨(l0), (a1), (0), rz, rz, H', ⟨Nat.le_refl _⟩, ⟨hr HO0.out⟩, ⟨by repeat (first | (with_reducible first | exact HK.out | apply Kept.alloc | apply Kept.drewN | apply Kept.drew) | exact HK.out)⟩, ⟨bz⟩⟩
 case round =>
  clear H'; (try clear p2); obtain ⟨x0_1, x1_1, x5_1, rfl, rfl, HA, HK1, HO_0, HK, HB⟩ := hrel
  cases gk with
  | zero => exact absurd HA.out (by simp [laws_markPieceS.l0])
  | succ k1 =>
   have H := HA.out; clear HA; simp only [laws_markPieceS.l0] at H
   by_cases c3 : x5_1 < (x0_1.length : Int)
   ·rw [if_pos c3] at H; have c3b0 := decide_eq_true c3; clear c3
    by_cases c4 : 0 ≤ x5_1
    ·rw [if_pos c4] at H; have c4b0 := decide_eq_true c4; clear c4; obtain ⟨y152, hy152⟩ : ∃ y_ : List (S110), y_ = (x0_1.set (x5_1 : Int).toNat (⟨x1_1, (rd_T110 x0_1 x5_1).f1⟩ : S110)) := ⟨_, rfl⟩
     replace H : (laws_markPieceS.l0 k1 (y152.set (x5_1 : Int).toNat (⟨(rd_T110 y152 x5_1).f0, wrap64 (x1_1 + 1)⟩ : S110)) (wrap64 ((wrap64 (x1_1 + 1)) + 1)) (wrap64 (x5_1 + 1))) = some (r1, r2) := by first | (rw [hy152]; with_reducible exact H) | (have H2_ := (Option.bind_some _ _).symm.trans H; rw [hy152]; with_reducible exact H2_) | (have H2_ := (Option.bind_some _ _).symm.trans H; with_reducible exact H2_) | with_reducible exact H | (rw [hy152]; exact H) | exact H
     have Ny152 := Aside0.mk hy152; clear hy152; obtain ⟨y153, hy153⟩ : ∃ y_ : List (S110), y_ = (y152.set (x5_1 : Int).toNat (⟨(rd_T110 y152 x5_1).f0, wrap64 (x1_1 + 1)⟩ : S110)) := ⟨_, rfl⟩
     replace H : (laws_markPieceS.l0 k1 y153 (wrap64 ((wrap64 (x1_1 + 1)) + 1)) (wrap64 (x5_1 + 1))) = some (r1, r2) := by first | (rw [hy153]; with_reducible exact H) | (have H2_ := (Option.bind_some _ _).symm.trans H; rw [hy153]; with_reducible exact H2_) | (have H2_ := (Option.bind_some _ _).symm.trans H; with_reducible exact H2_) | with_reducible exact H | (rw [hy153]; exact H) | exact H
     have Ny153 := Aside0.mk hy153; clear hy153; have H' := Aside0.mk H; clear H; obtain ⟨Ao7, co7, eo7⟩ := Kd.R_slice HO_0.out; subst eo7; have p5 : 0 ≤ (x5_1 : Int) := of_decide_eq_true az; have q5 : (x5_1 : Int) < ((x0_1.length : Int) : Int) := of_decide_eq_true az; obtain ⟨go5, co5, eo5, gb5, gl5, cl5, HG5⟩ := Kd.R_form HO_0.out (by omega)
     (first | cases eo5 | (injection eo5 with ea_ en_ ec_; (first | subst ea_ | (injection ea_ with ea_; subst ea_)); subst ec_; clear en_))
     have GB5 := Aside0.mk gb5; have GG5 := Aside0.mk HG5; clear gb5 gl5 HG5; have HMgo5 := Aside0.mk (show (P0_ go5 ∨ w.heap.size ≤ go5) from (HO_0.out.1 _ rfl)); obtain ⟨ce5, hcl5, hM5, hcc5, hfr5⟩ := Kd.R_elem HO_0.out z110 (x5_1 : Int) p5 q5; obtain rfl := k110_openM hM5; have hx5_0 : wr.cell? ⟨go5, (x5_1 : Int).toNat * 2, none⟩ = some (.int .i64 ((rd_T110 x0_1 x5_1).f0)) := hcc5 0 _ rfl; have hx5_1 : wr.cell? ⟨go5, (x5_1 : Int).toNat * 2 + 1, none⟩ = some (.int .i64 ((rd_T110 x0_1 x5_1).f1)) := hcc5 1 _ rfl; have hf5_0 : wr.frozen? ⟨go5, (x5_1 : Int).toNat * 2, none⟩ = false := hfr5 0; have hf5_1 : wr.frozen? ⟨go5, (x5_1 : Int).toNat * 2 + 1, none⟩ = false := hfr5 1; clear hcl5 hcc5 hfr5 hM5; replace p5 := eq_true p5; replace q5 := eq_true q5; have HX8 := Aside0.mk (show Kd.R k110 110 wr w0.heap.size (fun k_ => (P0_ k_ ∨ w.heap.size ≤ k_)) (.slice (some ⟨go5, 0, none⟩) x0_1.length co7) x0_1 from (hr HO_0.out)); obtain ⟨ce8, hcl8, hM8, hcc8, hfr8⟩ := Kd.R_elem HX8.out z110 (x5_1 : Int) (of_decide_eq_true az) (by have h_ : (x5_1 : Int) < ((x0_1.length : Int) : Int) := of_decide_eq_true az; first | exact h_ | (have e_ := (Kd.R_reads' HO_0.out).1; omega) | simpa using h_); obtain rfl := k110_openM hM8; have HP8 := Kd.R_seg HX8.out (x5_1 : Int) (of_decide_eq_true az) (by have h_ : (x5_1 : Int) < ((x0_1.length : Int) : Int) := of_decide_eq_true az; first | exact h_ | (have e_ := (Kd.R_reads' HO_0.out).1; omega) | simpa using h_) (seg := [.int .i64 x1_1]) (j := 0) hcl8 hcc8 (show 1 ≤ 2 from by decide) (x' := (⟨x1_1, (rd_T110 x0_1 x5_1).f1⟩ : S110)) (k110_mkM _ _ _ (⟨x1_1, (rd_T110 x0_1 x5_1).f1⟩ : S110) ) (fun _ hk => hk)
     have hx8_0 := hcc8 0 _ rfl; (try simp only [show (k110).sz = 2 from rfl, Nat.mul_one, Nat.add_zero] at hx8_0); have hf8_0 := hfr8 0; (try simp only [show (k110).sz = 2 from rfl, Nat.mul_one, Nat.add_zero] at hf8_0); clear hcl8 hcc8 hfr8 hM8; go_wp2_with (first | ((with_reducible refine gate_store (t := 3) (p := 16) rfl ?_); refine store_event (t := 3) (p := 16) (v := ?vo_w9) (w1 := (wr.setCell ⟨go5, (x5_1 : Int).toNat * 2, none⟩ (.int .i64 x1_1))) ?hg ?ho ?hn ?hr ?_; (case ho => rfl); (case hg => rfl); (case hn => rfl); (case hr => first | (go_simp; done) | (go_simp; rfl)); intro w9 hw; have hg : wr.grownBy w9 (some go5) := (by rw [hw]; exact HP8.2); have hp_ : Kd.R k110 110 w9 w0.heap.size (fun k_ => (P0_ k_ ∨ w.heap.size ≤ k_)) (.slice (some ⟨go5, 0, none⟩) x0_1.length co7) y152 := (by rw [hw, Ny152.out]; exact HP8.1); clear HP8; replace HB := Aside0.mk ((by rw [hw]; exact below_set (HB.out) GB5.out : Below w0.heap.size w0 w9)); replace HK := Aside0.mk (Kept.of_grown (S := (fun k_ => P0_ k_)) hg (by repeat (first | (with_reducible first | exact HK.out | apply Kept.alloc | apply Kept.drewN | apply Kept.drew) | exact HK.out)) (fun k_ e_ => (HO_0.out.1 k_ e_))); replace HO_0 := Aside0.mk (hp_); clear hg hw hp_; have p6 : 0 ≤ (x5_1 : Int) := of_decide_eq_true az; have q6 : (x5_1 : Int) < ((x0_1.length : Int) : Int) := of_decide_eq_true az; obtain ⟨ce6, hcl6, hM6, hcc6, hfr6⟩ := Kd.R_elem HO_0.out z110 (x5_1 : Int) p6 q6; obtain rfl := k110_openM hM6; have hx6_0 : w9.cell? ⟨go5, (x5_1 : Int).toNat * 2, none⟩ = some (.int .i64 ((rd_T110 y152 x5_1).f0)) := hcc6 0 _ rfl; have hx6_1 : w9.cell? ⟨go5, (x5_1 : Int).toNat * 2 + 1, none⟩ = some (.int .i64 ((rd_T110 y152 x5_1).f1)) := hcc6 1 _ rfl; have hf6_0 : w9.frozen? ⟨go5, (x5_1 : Int).toNat * 2, none⟩ = false := hfr6 0; have hf6_1 : w9.frozen? ⟨go5, (x5_1 : Int).toNat * 2 + 1, none⟩ = false := hfr6 1; clear hcl6 hcc6 hfr6 hM6; replace p6 := eq_true p6; replace q6 := eq_true q6; have HX10 := Aside0.mk (show Kd.R k110 110 w9 w0.heap.size (fun k_ => (P0_ k_ ∨ w.heap.size ≤ k_)) (.slice (some ⟨go5, 0, none⟩) x0_1.length co7) y152 from (hr HO_0.out)); obtain ⟨ce10, hcl10, hM10, hcc10, hfr10⟩ := Kd.R_elem HX10.out z110 (x5_1 : Int) (of_decide_eq_true az) (by have h_ : (x5_1 : Int) < ((x0_1.length : Int) : Int) := of_decide_eq_true az; first | exact h_ | (have e_ := (Kd.R_reads' HO_0.out).1; omega) | simpa using h_); obtain rfl := k110_openM hM10; have HP10 := Kd.R_seg HX10.out (x5_1 : Int) (of_decide_eq_true az) (by have h_ : (x5_1 : Int) < ((x0_1.length : Int) : Int) := of_decide_eq_true az; first | exact h_ | (have e_ := (Kd.R_reads' HO_0.out).1; omega) | simpa using h_) (seg := [.int .i64 (wrap64 (x1_1 + 1))]) (j := 1) hcl10 hcc10 (show 2 ≤ 2 from by decide) (x' := (⟨(rd_T110 y152 x5_1).f0, wrap64 (x1_1 + 1)⟩ : S110)) (k110_mkM _ _ _ (⟨(rd_T110 y152 x5_1).f0, wrap64 (x1_1 + 1)⟩ : S110) ) (fun _ hk => hk); have hx10_1 := hcc10 1 _ rfl; (try simp only [show (k110).sz = 2 from rfl, Nat.mul_one, Nat.add_zero] at hx10_1); have hf10_1 := hfr10 1; (try simp only [show (k110).sz = 2 from rfl, Nat.mul_one, Nat.add_zero] at hf10_1); clear hcl10 hcc10 hfr10 hM10) | ((with_reducible refine gate_store (t := 3) (p := 23) rfl ?_); refine store_event (t := 3) (p := 23) (v := ?vo_w11) (w1 := (w9.setCell ⟨go5, (x5_1 : Int).toNat * 2 + 1, none⟩ (.int .i64 (wrap64 (x1_1 + 1))))) ?hg ?ho ?hn ?hr ?_; (case ho => rfl); (case hg => rfl); (case hn => rfl); (case hr => first | (go_simp; done) | (go_simp; rfl)); intro w11 hw; have hg : w9.grownBy w11 (some go5) := (by rw [hw]; exact HP10.2); have hp_ : Kd.R k110 110 w11 w0.heap.size (fun k_ => (P0_ k_ ∨ w.heap.size ≤ k_)) (.slice (some ⟨go5, 0, none⟩) x0_1.length co7) y153 := (by rw [hw, Ny153.out]; exact HP10.1); clear HP10; replace HB := Aside0.mk ((by rw [hw]; exact below_set (HB.out) GB5.out : Below w0.heap.size w0 w11)); replace HK := Aside0.mk (Kept.of_grown (S := (fun k_ => P0_ k_)) hg (by repeat (first | (with_reducible first | exact HK.out | apply Kept.alloc | apply Kept.drewN | apply Kept.drew) | exact HK.out)) (fun k_ e_ => (HO_0.out.1 k_ e_))); replace HO_0 := Aside0.mk (hp_); clear hg hw hp_))
     go_roundg k1
     case measure => have := HK1.out; omega
     case rel => exact ⟨(y153), (wrap64 ((wrap64 (x1_1 + 1)) + 1)), (wrap64 (x5_1 + 1)), rz, rz, H', ⟨by have := HK1.out; omega⟩, ⟨hr HO_0.out⟩, ⟨by repeat (first | (with_reducible first | exact HK.out | apply Kept.alloc | apply Kept.drewN | apply Kept.drew) | exact HK.out)⟩, ⟨bz⟩⟩
    ·rw [if_neg c4] at H
     exact absurd H (by simp)
   ·rw [if_neg c3] at H; have c3b0 := decide_eq_false c3; clear c3; simp only [Option.some.injEq, Prod.mk.injEq] at H; obtain ⟨rfl, rfl⟩ := H; obtain ⟨Ao12, co12, eo12⟩ := Kd.R_slice HO_0.out; subst eo12; go_wp2; go_ret
    exact ⟨ez, hr HO_0.out, bz, by repeat (first | (with_reducible first | exact HK.out | apply Kept.alloc | apply Kept.drewN | apply Kept.drew) | exact HK.out)⟩
set_option maxHeartbeats 8000000 in
set_option maxRecDepth 100000 in
theorem laws_heldPieceS.calls (k : Nat) (A0 : Option Addr) (c0 : Nat) (l0 : List (S110)) (a1 : Int) (r : Int) (w : World) (hr0 : Kd.C k110 w A0 l0.length l0) (hc0 : l0.length ≤ c0) (h : laws_heldPieceS.f k l0 a1 = some r) :
  Calls Try.prog 51 #[.slice A0 l0.length c0, .int .i64 a1] w fun e w' => e = .returned (.int .i64 r) ∧ Drawn0 w w' := by
 have HR0 := Aside0.mk hr0; have HC0 := Aside0.mk hc0; clear hr0 hc0; have H : (laws_heldPieceS.l0 k l0 a1 0) = some r := h; clear h; have H' := Aside0.mk H; clear H
 go_enter Try.func51, Try.ntmps51; go_wp2
 go_loopg [1, 5] k (fun kq v1 v5 w' => ∃ (x1_1 : Int) (x5_1 : Int), v1 = .int .i64 x1_1 ∧ v5 = .int .i64 x5_1 ∧ Aside0 (laws_heldPieceS.l0 kq l0 x1_1 x5_1 = some r) ∧ Aside0 (kq ≤ k) ∧ Drawn0 w w')
 case atStart => exact ⟨(a1), (0), rz, rz, H', ⟨Nat.le_refl _⟩, by repeat (first | exact Drawn0.refl _ | apply Drawn0.step)⟩
 case round =>
  clear H'; (try clear p2); obtain ⟨x1_1, x5_1, rfl, rfl, HA, HK1, ⟨m1, rfl⟩⟩ := hrel
  cases gk with
  | zero => exact absurd HA.out (by simp [laws_heldPieceS.l0])
  | succ k1 =>
   have H := HA.out; clear HA; simp only [laws_heldPieceS.l0] at H
   by_cases c3 : x5_1 < (l0.length : Int)
   ·rw [if_pos c3] at H; have c3b0 := decide_eq_true c3; clear c3
    by_cases c4 : 0 ≤ x5_1
    ·rw [if_pos c4] at H; have c4b0 := decide_eq_true c4; clear c4
     by_cases c5 : ((rd_T110 l0 x5_1).f0) = x1_1
     ·rw [if_pos c5] at H; have c5b0 : (((rd_T110 l0 x5_1).f0) == x1_1) = true := beq_iff_eq.mpr c5; have c5b1 : (((rd_T110 l0 x5_1).f0) != x1_1) = false := bne_eq_false_iff_eq.mpr c5; clear c5
      by_cases c6 : ((rd_T110 l0 x5_1).f1) = (wrap64 (x1_1 + 1))
      ·rw [if_pos c6] at H; have c6b0 : (((rd_T110 l0 x5_1).f1) == (wrap64 (x1_1 + 1))) = true := beq_iff_eq.mpr c6; have c6b1 : (((rd_T110 l0 x5_1).f1) != (wrap64 (x1_1 + 1))) = false := bne_eq_false_iff_eq.mpr c6; clear c6; have H' := Aside0.mk H; clear H; have p154 : 0 ≤ (x5_1 : Int) := of_decide_eq_true az; have q154 : x5_1 < (l0.length : Int) := of_decide_eq_true az; obtain ⟨ad154, e154, hx154_0, hx154_1⟩ := at_T110 HR0.out x5_1 p154 q154
       cases e154
       replace p154 := eq_true p154; replace q154 := eq_true q154; have p155 : 0 ≤ (x5_1 : Int) := of_decide_eq_true az; have q155 : x5_1 < (l0.length : Int) := of_decide_eq_true az; obtain ⟨ad155, e155, hx155_0, hx155_1⟩ := at_T110 HR0.out x5_1 p155 q155; obtain rfl : ad154 = ad155 := (by injection e155)
       replace p155 := eq_true p155; replace q155 := eq_true q155; go_wp2
       go_roundg k1
       case measure => have := HK1.out; omega
       case rel => exact ⟨(wrap64 ((wrap64 (x1_1 + 1)) + 1)), (wrap64 (x5_1 + 1)), rz, rz, H', ⟨by have := HK1.out; omega⟩, by repeat (first | exact Drawn0.refl _ | apply Drawn0.step)⟩
      ·rw [if_neg c6] at H; have c6b0 : (((rd_T110 l0 x5_1).f1) == (wrap64 (x1_1 + 1))) = false := beq_eq_false_iff_ne.mpr c6; have c6b1 : (((rd_T110 l0 x5_1).f1) != (wrap64 (x1_1 + 1))) = true := bne_iff_ne.mpr c6; obtain rfl := Option.some.inj H; have p154 : 0 ≤ (x5_1 : Int) := of_decide_eq_true az; have q154 : x5_1 < (l0.length : Int) := of_decide_eq_true az; obtain ⟨ad154, e154, hx154_0, hx154_1⟩ := at_T110 HR0.out x5_1 p154 q154
       cases e154
       replace p154 := eq_true p154; replace q154 := eq_true q154; have p155 : 0 ≤ (x5_1 : Int) := of_decide_eq_true az; have q155 : x5_1 < (l0.length : Int) := of_decide_eq_true az; obtain ⟨ad155, e155, hx155_0, hx155_1⟩ := at_T110 HR0.out x5_1 p155 q155; obtain rfl : ad154 = ad155 := (by injection e155)
       replace p155 := eq_true p155; replace q155 := eq_true q155; go_wp2; go_ret
       exact ⟨by first | rfl | (simp; done) | (simp [*]; done), by repeat (first | exact Drawn0.refl _ | apply Drawn0.step)⟩
     ·rw [if_neg c5] at H; have c5b0 : (((rd_T110 l0 x5_1).f0) == x1_1) = false := beq_eq_false_iff_ne.mpr c5; have c5b1 : (((rd_T110 l0 x5_1).f0) != x1_1) = true := bne_iff_ne.mpr c5; obtain rfl := Option.some.inj H; have p154 : 0 ≤ (x5_1 : Int) := of_decide_eq_true az; have q154 : x5_1 < (l0.length : Int) := of_decide_eq_true az; obtain ⟨ad154, e154, hx154_0, hx154_1⟩ := at_T110 HR0.out x5_1 p154 q154
      cases e154
      replace p154 := eq_true p154; replace q154 := eq_true q154; go_wp2; go_ret
      exact ⟨by first | rfl | (simp; done) | (simp [*]; done), by repeat (first | exact Drawn0.refl _ | apply Drawn0.step)⟩
    ·rw [if_neg c4] at H
     exact absurd H (by simp)
   ·rw [if_neg c3] at H; have c3b0 := decide_eq_false c3; clear c3; obtain rfl := Option.some.inj H; go_wp2; go_ret
    exact ⟨by first | rfl | (simp; done) | (simp [*]; done), by repeat (first | exact Drawn0.refl _ | apply Drawn0.step)⟩
theorem spec_l1In.any (a0 : Int) (a1 : Int) (a2 : Int) (w : World) :
    Calls Try.prog 71 #[.int .i64 a0, .int .i64 a1, .int .i64 a2] w fun e w' => e = .returned (.bool (inR a0 a1 a2)) ∧ w = w' := by
  go_enter Try.func71, Try.ntmps71; go_wp2
  all_goals (go_ret; refine ⟨?_, rfl⟩; congr 2; first | (simp [inR, *]; done) | (simp [inR, *] <;> omega) | (unfold inR; repeat' split <;> first | rfl | omega))
theorem spec_l1In.calls (a0 : Int) (a1 : Int) (a2 : Int) (r : Bool) (w : World) (h : spec_l1In.f a0 a1 a2 = some r) :
    Calls Try.prog 71 #[.int .i64 a0, .int .i64 a1, .int .i64 a2] w fun e w' => e = .returned (.bool (r)) ∧ ∃ nd_ : Nat, w = w' := by
  obtain rfl := Option.some.inj h
  exact (spec_l1In.any a0 a1 a2 w).mono fun e w' ⟨he, hw⟩ => ⟨he, 0, hw⟩
theorem spec_Max.any (a0 : Int) (a1 : Int) (w : World) :
    Calls Try.prog 108 #[.int .i64 a0, .int .i64 a1] w fun e w' => e = .returned (.int .i64 (mx a0 a1)) ∧ w = w' := by
  go_enter Try.func108, Try.ntmps108; go_wp2
  all_goals (go_ret; refine ⟨?_, rfl⟩; congr 2; unfold mx; repeat' split <;> first | rfl | omega)
theorem spec_Max.calls (a0 : Int) (a1 : Int) (r : Int) (w : World) (h : spec_Max.f a0 a1 = some r) :
    Calls Try.prog 108 #[.int .i64 a0, .int .i64 a1] w fun e w' => e = .returned (.int .i64 (r)) ∧ ∃ nd_ : Nat, w = w' := by
  obtain rfl := Option.some.inj h
  exact (spec_Max.any a0 a1 w).mono fun e w' ⟨he, hw⟩ => ⟨he, 0, hw⟩
theorem spec_Min.any (a0 : Int) (a1 : Int) (w : World) :
    Calls Try.prog 140 #[.int .i64 a0, .int .i64 a1] w fun e w' => e = .returned (.int .i64 (mn a0 a1)) ∧ w = w' := by
  go_enter Try.func140, Try.ntmps140; go_wp2
  all_goals (go_ret; refine ⟨?_, rfl⟩; congr 2; unfold mn; repeat' split <;> first | rfl | omega)
theorem spec_Min.calls (a0 : Int) (a1 : Int) (r : Int) (w : World) (h : spec_Min.f a0 a1 = some r) :
    Calls Try.prog 140 #[.int .i64 a0, .int .i64 a1] w fun e w' => e = .returned (.int .i64 (r)) ∧ ∃ nd_ : Nat, w = w' := by
  obtain rfl := Option.some.inj h
  exact (spec_Min.any a0 a1 w).mono fun e w' ⟨he, hw⟩ => ⟨he, 0, hw⟩
theorem spec_IsPoint.any (a0_0 : Int) (a0_1 : Int) (w : World) :
    Calls Try.prog 117 #[.agg #[.int .i64 a0_0, .int .i64 a0_1]] w fun e w' => e = .returned (.bool (isPt a0_0 a0_1)) ∧ Below w.heap.size w w' := by
  have HB := Aside0.mk (Below.refl w.heap.size w)
  go_enter Try.func117, Try.ntmps117; go_wp2_with (first
    | (go_at_call 71; refine (spec_l1In.any _ _ _ _).mono ?_; rintro e w1 ⟨rfl, rfl⟩))
  all_goals (go_ret; refine ⟨?_, by repeat (first | (with_reducible first | exact HB.out | apply below_alloc | apply below_drew1 | apply pw_below_drewN) | exact HB.out)⟩; clear HB; congr 2; simp [isPt, *])
theorem spec_IsPoint.calls (a0_0 : Int) (a0_1 : Int) (r : Bool) (w : World) (h : spec_IsPoint.f a0_0 a0_1 = some r) :
    Calls Try.prog 117 #[.agg #[.int .i64 a0_0, .int .i64 a0_1]] w fun e w' => e = .returned (.bool (r)) ∧ Below w.heap.size w w' := by
  obtain rfl := Option.some.inj h
  exact (spec_IsPoint.any a0_0 a0_1 w).mono fun e w' ⟨he, hw⟩ => ⟨he, hw⟩
theorem spec_IsSegment.any (a0_0 : Int) (a0_1 : Int) (a0_2 : Int) (a0_3 : Int) (w : World) :
    Calls Try.prog 148 #[.agg #[.int .i64 a0_0, .int .i64 a0_1, .int .i64 a0_2, .int .i64 a0_3]] w fun e w' => e = .returned (.bool (isSeg a0_0 a0_1 a0_2 a0_3)) ∧ Below w.heap.size w w' := by
  have HB := Aside0.mk (Below.refl w.heap.size w)
  go_enter Try.func148, Try.ntmps148; go_wp2_with (first
    | (go_at_call 117; refine (spec_IsPoint.any _ _ _).mono ?_; rintro e w1 ⟨rfl, hb⟩; have n0 := Aside0.mk (below_step (by repeat (first | (with_reducible first | exact HB.out | apply below_alloc | apply below_drew1 | apply pw_below_drewN) | exact HB.out)) hb); clear HB; have HB := n0; clear n0; obtain ⟨hc, hf⟩ := bcell hb; have hz0 : w.heap.size < w1.heap.size := (by have := hb.size; (try simp at this); omega); clear hb))
  all_goals (go_ret; refine ⟨?_, by repeat (first | (with_reducible first | exact HB.out | apply below_alloc | apply below_drew1 | apply pw_below_drewN) | exact HB.out)⟩; clear HB; congr 2; unfold isSeg; first | (simp_all; done) | (simp_all; rfl))
theorem spec_IsSegment.calls (a0_0 : Int) (a0_1 : Int) (a0_2 : Int) (a0_3 : Int) (r : Bool) (w : World) (h : spec_IsSegment.f a0_0 a0_1 a0_2 a0_3 = some r) :
    Calls Try.prog 148 #[.agg #[.int .i64 a0_0, .int .i64 a0_1, .int .i64 a0_2, .int .i64 a0_3]] w fun e w' => e = .returned (.bool (r)) ∧ Below w.heap.size w w' := by
  obtain rfl := Option.some.inj h
  exact (spec_IsSegment.any a0_0 a0_1 a0_2 a0_3 w).mono fun e w' ⟨he, hw⟩ => ⟨he, hw⟩
theorem spec_l4Cross.any (a0_0 : Int) (a0_1 : Int) (a1_0 : Int) (a1_1 : Int) (a2_0 : Int) (a2_1 : Int) (w : World) :
    Calls Try.prog 107 #[.agg #[.int .i64 a0_0, .int .i64 a0_1], .agg #[.int .i64 a1_0, .int .i64 a1_1], .agg #[.int .i64 a2_0, .int .i64 a2_1]] w fun e w' => e = .returned (.int .i64 (crossI a0_0 a0_1 a1_0 a1_1 a2_0 a2_1)) ∧ Below w.heap.size w w' := by
  have HB := Aside0.mk (Below.refl w.heap.size w)
  go_enter Try.func107, Try.ntmps107; go_wp2
  all_goals (go_ret; refine ⟨?_, by repeat (first | (with_reducible first | exact HB.out | apply below_alloc | apply below_drew1 | apply pw_below_drewN) | exact HB.out)⟩; clear HB; rfl)
set_option maxHeartbeats 4000000 in
theorem spec_SideOf.any (a0_0 : Int) (a0_1 : Int) (a1_0 : Int) (a1_1 : Int) (a2_0 : Int) (a2_1 : Int) (w : World) :
    Calls Try.prog 164 #[.agg #[.int .i64 a0_0, .int .i64 a0_1], .agg #[.int .i64 a1_0, .int .i64 a1_1], .agg #[.int .i64 a2_0, .int .i64 a2_1]] w fun e w' => e = .returned (.int .i64 (sideI a0_0 a0_1 a1_0 a1_1 a2_0 a2_1)) ∧ Below w.heap.size w w' := by
  have HB := Aside0.mk (Below.refl w.heap.size w)
  go_enter Try.func164, Try.ntmps164; go_wp2_with (first
    | (go_at_call 117; refine (spec_IsPoint.any _ _ _).mono ?_; rintro e w1 ⟨rfl, hb⟩; have n0 := Aside0.mk (below_step (by repeat (first | (with_reducible first | exact HB.out | apply below_alloc | apply below_drew1 | apply pw_below_drewN) | exact HB.out)) hb); clear HB; have HB := n0; clear n0; obtain ⟨hc, hf⟩ := bcell hb; have hz0 : w.heap.size < w1.heap.size := (by have := hb.size; (try simp at this); omega); have hz1 : w.heap.size + 1 < w1.heap.size := (by have := hb.size; (try simp at this); omega); have hz2 : w.heap.size + 1 + 1 < w1.heap.size := (by have := hb.size; (try simp at this); omega); clear hb)
    | (go_at_call 107; refine (spec_l4Cross.any _ _ _ _ _ _ _).mono ?_; rintro e w1 ⟨rfl, hb⟩; have n0 := Aside0.mk (below_step (by repeat (first | (with_reducible first | exact HB.out | apply below_alloc | apply below_drew1 | apply pw_below_drewN) | exact HB.out)) hb); clear HB; have HB := n0; clear n0; obtain ⟨hc, hf⟩ := bcell hb; have hz0 : w.heap.size < w1.heap.size := (by have := hb.size; (try simp at this); omega); have hz1 : w.heap.size + 1 < w1.heap.size := (by have := hb.size; (try simp at this); omega); have hz2 : w.heap.size + 1 + 1 < w1.heap.size := (by have := hb.size; (try simp at this); omega); clear hb))
  all_goals (go_ret; refine ⟨?_, by repeat (first | (with_reducible first | exact HB.out | apply below_alloc | apply below_drew1 | apply pw_below_drewN) | exact HB.out)⟩; clear HB; congr 2; unfold sideI cmpI; (repeat' split) <;> simp_all <;> omega)
theorem spec_SideOf.calls (a0_0 : Int) (a0_1 : Int) (a1_0 : Int) (a1_1 : Int) (a2_0 : Int) (a2_1 : Int) (r : Int) (w : World) (h : spec_SideOf.f a0_0 a0_1 a1_0 a1_1 a2_0 a2_1 = some r) :
    Calls Try.prog 164 #[.agg #[.int .i64 a0_0, .int .i64 a0_1], .agg #[.int .i64 a1_0, .int .i64 a1_1], .agg #[.int .i64 a2_0, .int .i64 a2_1]] w fun e w' => e = .returned (.int .i64 (r)) ∧ Below w.heap.size w w' := by
  obtain rfl := Option.some.inj h
  exact (spec_SideOf.any a0_0 a0_1 a1_0 a1_1 a2_0 a2_1 w).mono fun e w' ⟨he, hw⟩ => ⟨he, hw⟩
set_option maxHeartbeats 8000000 in
theorem spec_IsOn.wlk (a b c d e f x : Int) (s p i j : Bool) (hs : isSeg a b c d = s) (hp : isPt e f = p) (hx : crossI a b c d e f = x) (hi : inR e (mn a c) (mx a c) = i) (hj : inR f (mn b d) (mx b d) = j) (w : World) :
    Calls Try.prog 173 #[.agg #[.int .i64 a, .int .i64 b, .int .i64 c, .int .i64 d], .agg #[.int .i64 e, .int .i64 f]] w fun e w' => e = .returned (.bool (s && p && decide (x = 0) && i && j)) ∧ Below w.heap.size w w' := by
  have HB := Aside0.mk (Below.refl w.heap.size w); have hC : s = false ∨ (s = true ∧ p = false) ∨ (s = true ∧ p = true ∧ x ≠ 0) ∨ (s = true ∧ p = true ∧ x = 0 ∧ i = false) ∨ (s = true ∧ p = true ∧ x = 0 ∧ i = true) := by
    by_cases x = 0 <;> cases s <;> cases p <;> cases i <;> simp [*]
  go_enter Try.func173, Try.ntmps173; go_wp2; have hS := Aside0.mk (two1 w (.cells #[.int .i64 a, .int .i64 b, .int .i64 c, .int .i64 d] 85) (.cells #[.int .i64 e, .int .i64 f] 82)); have hT := Aside0.mk (two2 w (.cells #[.int .i64 a, .int .i64 b, .int .i64 c, .int .i64 d] 85) (.cells #[.int .i64 e, .int .i64 f] 82)); refine wq_region (by kernel_rfl) (by kernel_rfl) ?_; obtain ⟨m0, m1, m2, m3⟩ := q4 hS.out; obtain ⟨l0, l1⟩ := q2 hT.out
  rcases hC with rfl | ⟨rfl, rfl⟩ | ⟨rfl, rfl, hx0⟩ | ⟨rfl, rfl, rfl, rfl⟩ | ⟨rfl, rfl, rfl, rfl⟩
  case' inr.inr.inl =>
    have z1 : (x == 0) = false := by simpa using hx0
    have z2 : decide (x = 0) = false := by simpa using hx0
    have z3 : (x = 0) = False := eq_false hx0; clear hx0
  all_goals
    iterate 54 (refine wq_step (fun K hK => ?_); go_simp; first | (refine hK _ ?_; clear hK K) | (apply Exists.intro; refine ⟨fun _ => ?_, hK _ ?_⟩; (first | exact qc (fun W => spec_IsSegment.any _ _ _ _ W) _ _ | exact qc (fun W => spec_IsPoint.any _ _ W) _ _ | exact qc (fun W => spec_l4Cross.any _ _ _ _ _ _ W) _ _ | exact qs (fun W => spec_Min.any _ _ W) _ _ | exact qs (fun W => spec_Max.any _ _ W) _ _ | exact qs (fun W => spec_l1In.any _ _ _ W) _ _); clear hK K))
    refine wq_nil ?_; intro w1 hb; replace HB := Aside0.mk (below_step (below_alloc (below_alloc HB.out _) _) hb); clear m0 m1 m2 m3 l0 l1 hS hT hb; go_wp2; go_ret
    exact ⟨by first | rfl | (simp; done) | (simp [z2]; done), HB.out⟩
theorem spec_IsOn.any (a b c d e f : Int) (w : World) :
    Calls Try.prog 173 #[.agg #[.int .i64 a, .int .i64 b, .int .i64 c, .int .i64 d], .agg #[.int .i64 e, .int .i64 f]] w fun e_ w' => e_ = .returned (.bool (isOnI a b c d e f)) ∧ Below w.heap.size w w' := by
  refine (spec_IsOn.wlk a b c d e f _ _ _ _ _ rfl rfl rfl rfl rfl w).mono ?_; rintro e_ w' ⟨rfl, hb⟩; refine ⟨?_, hb⟩
  congr 2
  unfold isOnI
  cases h1 : isSeg a b c d
  · rfl
  · cases h2 : isPt e f
    · rfl
    · have h3 := h1
      unfold isSeg at h3
      simp only [Bool.and_eq_true] at h3; have e1 : sideI a b c d e f = cmpI (crossI a b c d e f) 0 := by unfold sideI; rw [h3.1.1, h3.1.2, h2]; rfl
      rw [e1, decide_eq_decide.mpr (by rw [cmp_zero] : cmpI (crossI a b c d e f) 0 = 0 ↔ crossI a b c d e f = 0)]
theorem spec_IsOn.calls (a0_0 : Int) (a0_1 : Int) (a0_2 : Int) (a0_3 : Int) (a1_0 : Int) (a1_1 : Int) (r : Bool) (w : World) (h : spec_IsOn.f a0_0 a0_1 a0_2 a0_3 a1_0 a1_1 = some r) :
    Calls Try.prog 173 #[.agg #[.int .i64 a0_0, .int .i64 a0_1, .int .i64 a0_2, .int .i64 a0_3], .agg #[.int .i64 a1_0, .int .i64 a1_1]] w fun e w' => e = .returned (.bool (r)) ∧ Below w.heap.size w w' := by
  obtain rfl := Option.some.inj h
  exact spec_IsOn.any a0_0 a0_1 a0_2 a0_3 a1_0 a1_1 w
theorem spec_HowMeet.no1 (a b c d e f g h : Int) (hs : isSeg a b c d = false) (w : World) : Calls Try.prog 145 #[.agg #[.int .i64 a, .int .i64 b, .int .i64 c, .int .i64 d], .agg #[.int .i64 e, .int .i64 f, .int .i64 g, .int .i64 h]] w fun e w' => e = .returned (.int .i64 0) ∧ Below w.heap.size w w' := by
  have ht : True := trivial; have HB := Aside0.mk (Below.refl w.heap.size w)
  go_enter Try.func145, Try.ntmps145; go_wp2_with (first | (go_at_call 148; refine (spec_IsSegment.any _ _ _ _ _).mono ?_; rintro e w1 ⟨rfl, hb⟩; simp only [hs, ht]; have n0 := Aside0.mk (below_step (by repeat (first | (with_reducible first | exact HB.out | apply below_alloc | apply below_drew1 | apply pw_below_drewN) | exact HB.out)) hb); clear HB; have HB := n0; clear n0; (first | (have n1 := Aside0.mk (blk_below hS.out hb); have n2 := Aside0.mk (blk_below hT.out hb); clear hS hT; have hS := n1; have hT := n2; clear n1 n2) | (have hS := Aside0.mk (blk_below (two1 w _ _) hb); have hT := Aside0.mk (blk_below (two2 w _ _) hb))); clear hb; obtain ⟨k0, k1, k2, k3⟩ := c4 hS.out; obtain ⟨j0, j1, j2, j3⟩ := c4 hT.out)); go_ret
  exact ⟨rfl, HB.out⟩
theorem spec_HowMeet.no2 (a b c d e f g h : Int) (hs : isSeg a b c d = true) (ht : isSeg e f g h = false) (w : World) : Calls Try.prog 145 #[.agg #[.int .i64 a, .int .i64 b, .int .i64 c, .int .i64 d], .agg #[.int .i64 e, .int .i64 f, .int .i64 g, .int .i64 h]] w fun e w' => e = .returned (.int .i64 0) ∧ Below w.heap.size w w' := by
  have HB := Aside0.mk (Below.refl w.heap.size w)
  go_enter Try.func145, Try.ntmps145; go_wp2_with (first | (go_at_call 148; refine (spec_IsSegment.any _ _ _ _ _).mono ?_; rintro e w1 ⟨rfl, hb⟩; simp only [hs, ht]; have n0 := Aside0.mk (below_step (by repeat (first | (with_reducible first | exact HB.out | apply below_alloc | apply below_drew1 | apply pw_below_drewN) | exact HB.out)) hb); clear HB; have HB := n0; clear n0; (first | (have n1 := Aside0.mk (blk_below hS.out hb); have n2 := Aside0.mk (blk_below hT.out hb); clear hS hT; have hS := n1; have hT := n2; clear n1 n2) | (have hS := Aside0.mk (blk_below (two1 w _ _) hb); have hT := Aside0.mk (blk_below (two2 w _ _) hb))); clear hb; obtain ⟨k0, k1, k2, k3⟩ := c4 hS.out; obtain ⟨j0, j1, j2, j3⟩ := c4 hT.out)); go_ret
  exact ⟨rfl, HB.out⟩
set_option maxHeartbeats 8000000 in
set_option maxRecDepth 100000 in
theorem spec_HowMeet.wlk (a b c d e f g h x1 x2 x3 x4 y z sh : Int) (z1 z2 z3 z4 : Bool) (hs : isSeg a b c d = true) (ht : isSeg e f g h = true) (hx1 : sideI a b c d e f = x1) (hx2 : sideI a b c d g h = x2) (hx3 : sideI e f g h a b = x3) (hx4 : sideI e f g h c d = x4)
    (f1 : IntKind.i64.wrap (x1 * x2) = y) (f2 : IntKind.i64.wrap (x3 * x4) = z) (c1 : decide (mx a c < mn e g) = z1) (c2 : decide (mx e g < mn a c) = z2) (c3 : decide (mx b d < mn f h) = z3) (c4_ : decide (mx f h < mn b d) = z4) (hy : y = -1 ∨ y = 0 ∨ y = 1) (hz : z = -1 ∨ z = 0 ∨ z = 1)
    (hsh : ∀ W : World, Calls Try.prog 168 #[.agg #[.int .i64 a, .int .i64 b, .int .i64 c, .int .i64 d], .agg #[.int .i64 e, .int .i64 f, .int .i64 g, .int .i64 h]] W fun e w' => e = .returned (.int .i64 sh) ∧ Below W.heap.size W w') (w : World) :
    Calls Try.prog 145 #[.agg #[.int .i64 a, .int .i64 b, .int .i64 c, .int .i64 d], .agg #[.int .i64 e, .int .i64 f, .int .i64 g, .int .i64 h]] w fun e w' => e = .returned (.int .i64 (if (z1 || z2 || z3 || z4) = true then 0 else if sh = 0 then (if y < 0 ∧ z < 0 then 2 else 0) else if sh = 1 then 1 else 3)) ∧ Below w.heap.size w w' := by
  have hQ : (y = -1 ∧ z = -1) ∨ y = 0 ∨ y = 1 ∨ (y = -1 ∧ z = 0) ∨ (y = -1 ∧ z = 1) := by omega
  have hZ : z1 = true ∨ (z1 = false ∧ z2 = true) ∨ (z1 = false ∧ z2 = false ∧ z3 = true) ∨ (z1 = false ∧ z2 = false ∧ z3 = false ∧ z4 = true) ∨ (z1 = false ∧ z2 = false ∧ z3 = false ∧ z4 = false) := by cases z1 <;> cases z2 <;> cases z3 <;> cases z4 <;> simp
  have hN : sh = 0 ∨ sh = 1 ∨ ((sh == 0) = false ∧ (sh == 1) = false ∧ decide (sh = 0) = false ∧ decide (sh = 1) = false ∧ (sh = 0) = False ∧ (sh = 1) = False) := by
    by_cases h0 : sh = 0
    · exact .inl h0
    · by_cases h1 : sh = 1
      · exact .inr (.inl h1)
      · exact .inr (.inr (by simp [h0, h1]))
  clear hy hz; have r1 : (mx a c < mn e g) = (z1 = true) := by rw [← c1]; simp
  have r2 : (mx e g < mn a c) = (z2 = true) := by rw [← c2]; simp
  have r3 : (mx b d < mn f h) = (z3 = true) := by rw [← c3]; simp
  have r4 : (mx f h < mn b d) = (z4 = true) := by rw [← c4_]; simp
  have HB := Aside0.mk (Below.refl w.heap.size w)
  go_enter Try.func145, Try.ntmps145; go_wp2_with (first | (go_at_call 148; refine (spec_IsSegment.any _ _ _ _ _).mono ?_; rintro e w1 ⟨rfl, hb⟩; simp only [hs, ht]; have n0 := Aside0.mk (below_step (by repeat (first | (with_reducible first | exact HB.out | apply below_alloc | apply below_drew1 | apply pw_below_drewN) | exact HB.out)) hb); clear HB; have HB := n0; clear n0; (first | (have n1 := Aside0.mk (blk_below hS.out hb); have n2 := Aside0.mk (blk_below hT.out hb); clear hS hT; have hS := n1; have hT := n2; clear n1 n2) | (have hS := Aside0.mk (blk_below (two1 w _ _) hb); have hT := Aside0.mk (blk_below (two2 w _ _) hb))); clear hb; obtain ⟨k0, k1, k2, k3⟩ := c4 hS.out; obtain ⟨j0, j1, j2, j3⟩ := c4 hT.out))
  rcases hZ with rfl | ⟨rfl, rfl⟩ | ⟨rfl, rfl, rfl⟩ | ⟨rfl, rfl, rfl, rfl⟩ | ⟨rfl, rfl, rfl, rfl⟩
  all_goals
    simp only [Bool.false_eq_true] at r1 r2 r3 r4; refine wq_region (by kernel_rfl) (by kernel_rfl) ?_; obtain ⟨m0, m1, m2, m3⟩ := q4 hS.out; obtain ⟨l0, l1, l2, l3⟩ := q4 hT.out
    iterate 66 (refine wq_step (fun K hK => ?_); go_simp; first | (refine hK _ ?_; clear hK K) | (apply Exists.intro; refine ⟨fun _ => ?_, hK _ ?_⟩; (first | exact qs (fun W => spec_Min.any _ _ W) _ _ | exact qs (fun W => spec_Max.any _ _ W) _ _); clear hK K))
    refine wq_nil ?_; intro w4 hb; clear m0 m1 m2 m3 l0 l1 l2 l3 k0 k1 k2 k3 j0 j1 j2 j3; have n0 := Aside0.mk (below_step HB.out hb); have n1 := Aside0.mk (blk_below hS.out hb); have n2 := Aside0.mk (blk_below hT.out hb); clear HB hS hT hb; have HB := n0; have hS := n1; have hT := n2; clear n0 n1 n2; obtain ⟨k0, k1, k2, k3⟩ := c4 hS.out; obtain ⟨j0, j1, j2, j3⟩ := c4 hT.out; clear c1 c2 c3 c4_ r1 r2 r3 r4
  · (go_wp2; go_ret; exact ⟨rfl, HB.out⟩)
  · (go_wp2; go_ret; exact ⟨rfl, HB.out⟩)
  · (go_wp2; go_ret; exact ⟨rfl, HB.out⟩)
  · (go_wp2; go_ret; exact ⟨rfl, HB.out⟩)
  rcases hN with rfl | rfl | ⟨v1, v2, v3, v4, v5, v6⟩
  · go_wp2_with (first | (go_at_call 168; refine (hsh _).mono ?_; rintro e w1 ⟨rfl, hb⟩; clear k0 k1 k2 k3 j0 j1 j2 j3; have n0 := Aside0.mk (below_step HB.out hb); have n1 := Aside0.mk (blk_below hS.out hb); have n2 := Aside0.mk (blk_below hT.out hb); clear HB hS hT hb; have HB := n0; have hS := n1; have hT := n2; clear n0 n1 n2; obtain ⟨k0, k1, k2, k3⟩ := c4 hS.out; obtain ⟨j0, j1, j2, j3⟩ := c4 hT.out)); clear hsh
    rcases hQ with ⟨rfl, rfl⟩ | rfl | rfl | ⟨rfl, rfl⟩ | ⟨rfl, rfl⟩
    all_goals
      refine wq_region (by kernel_rfl) (by kernel_rfl) ?_; obtain ⟨m0, m1, m2, m3⟩ := q4 hS.out; obtain ⟨l0, l1, l2, l3⟩ := q4 hT.out
      iterate 34 (refine wq_step (fun K hK => ?_); go_simp; first | (refine hK _ ?_; clear hK K) | (apply Exists.intro; refine ⟨fun _ => ?_, hK _ ?_⟩; (exact qc (fun W => spec_SideOf.any _ _ _ _ _ _ W) _ _); clear hK K))
      refine wq_nil ?_; intro w6 hb; clear m0 m1 m2 m3 l0 l1 l2 l3 k0 k1 k2 k3 j0 j1 j2 j3; have n0 := Aside0.mk (below_step HB.out hb); have n1 := Aside0.mk (blk_below hS.out hb); have n2 := Aside0.mk (blk_below hT.out hb); clear HB hS hT hb; have HB := n0; have hS := n1; have hT := n2; clear n0 n1 n2; obtain ⟨k0, k1, k2, k3⟩ := c4 hS.out; obtain ⟨j0, j1, j2, j3⟩ := c4 hT.out; go_wp2; go_ret
      exact ⟨rfl, HB.out⟩
  · clear hQ; go_wp2_with (first | (go_at_call 168; refine (hsh _).mono ?_; rintro e w1 ⟨rfl, hb⟩; clear k0 k1 k2 k3 j0 j1 j2 j3; have n0 := Aside0.mk (below_step HB.out hb); have n1 := Aside0.mk (blk_below hS.out hb); have n2 := Aside0.mk (blk_below hT.out hb); clear HB hS hT hb; have HB := n0; have hS := n1; have hT := n2; clear n0 n1 n2; obtain ⟨k0, k1, k2, k3⟩ := c4 hS.out; obtain ⟨j0, j1, j2, j3⟩ := c4 hT.out)); go_ret
    exact ⟨rfl, HB.out⟩
  · clear hQ; go_wp2_with (first | (go_at_call 168; refine (hsh _).mono ?_; rintro e w1 ⟨rfl, hb⟩; clear k0 k1 k2 k3 j0 j1 j2 j3; have n0 := Aside0.mk (below_step HB.out hb); have n1 := Aside0.mk (blk_below hS.out hb); have n2 := Aside0.mk (blk_below hT.out hb); clear HB hS hT hb; have HB := n0; have hS := n1; have hT := n2; clear n0 n1 n2; obtain ⟨k0, k1, k2, k3⟩ := c4 hS.out; obtain ⟨j0, j1, j2, j3⟩ := c4 hT.out)); go_ret
    exact ⟨by simp [v5, v6], HB.out⟩
theorem impl_InRange.any (a0 : Int) (a1 : Int) (a2 : Int) (w : World) :
    Calls Try.prog 112 #[.int .i64 a0, .int .i64 a1, .int .i64 a2] w fun e w' => e = .returned (.bool (inR a0 a1 a2)) ∧ w = w' := by
  go_enter Try.func112, Try.ntmps112; go_wp2
  all_goals (go_ret; refine ⟨?_, rfl⟩; congr 2; first | (simp [inR, *]; done) | (simp [inR, *] <;> omega) | (unfold inR; repeat' split <;> first | rfl | omega))
theorem impl_InRange.calls (a0 : Int) (a1 : Int) (a2 : Int) (r : Bool) (w : World) (h : impl_InRange.f a0 a1 a2 = some r) :
    Calls Try.prog 112 #[.int .i64 a0, .int .i64 a1, .int .i64 a2] w fun e w' => e = .returned (.bool (r)) ∧ ∃ nd_ : Nat, w = w' := by
  obtain rfl := Option.some.inj h
  exact (impl_InRange.any a0 a1 a2 w).mono fun e w' ⟨he, hw⟩ => ⟨he, 0, hw⟩
theorem impl_IsPoint.any (a0_0 : Int) (a0_1 : Int) (w : World) :
    Calls Try.prog 123 #[.agg #[.int .i64 a0_0, .int .i64 a0_1]] w fun e w' => e = .returned (.bool (isPt a0_0 a0_1)) ∧ Below w.heap.size w w' := by
  have HB := Aside0.mk (Below.refl w.heap.size w)
  go_enter Try.func123, Try.ntmps123; go_wp2_with (first
    | (go_at_call 112; refine (impl_InRange.any _ _ _ _).mono ?_; rintro e w1 ⟨rfl, rfl⟩))
  all_goals (go_ret; refine ⟨?_, by repeat (first | (with_reducible first | exact HB.out | apply below_alloc | apply below_drew1 | apply pw_below_drewN) | exact HB.out)⟩; clear HB; congr 2; simp [isPt, *])
theorem impl_IsPoint.calls (a0_0 : Int) (a0_1 : Int) (r : Bool) (w : World) (h : impl_IsPoint.f a0_0 a0_1 = some r) :
    Calls Try.prog 123 #[.agg #[.int .i64 a0_0, .int .i64 a0_1]] w fun e w' => e = .returned (.bool (r)) ∧ Below w.heap.size w w' := by
  obtain rfl := Option.some.inj h
  exact (impl_IsPoint.any a0_0 a0_1 w).mono fun e w' ⟨he, hw⟩ => ⟨he, hw⟩
theorem impl_IsSegment.any (a0_0 : Int) (a0_1 : Int) (a0_2 : Int) (a0_3 : Int) (w : World) :
    Calls Try.prog 151 #[.agg #[.int .i64 a0_0, .int .i64 a0_1, .int .i64 a0_2, .int .i64 a0_3]] w fun e w' => e = .returned (.bool (isSeg a0_0 a0_1 a0_2 a0_3)) ∧ Below w.heap.size w w' := by
  have HB := Aside0.mk (Below.refl w.heap.size w)
  go_enter Try.func151, Try.ntmps151; go_wp2_with (first
    | (go_at_call 123; refine (impl_IsPoint.any _ _ _).mono ?_; rintro e w1 ⟨rfl, hb⟩; have n0 := Aside0.mk (below_step (by repeat (first | (with_reducible first | exact HB.out | apply below_alloc | apply below_drew1 | apply pw_below_drewN) | exact HB.out)) hb); clear HB; have HB := n0; clear n0; obtain ⟨hc, hf⟩ := bcell hb; have hz0 : w.heap.size < w1.heap.size := (by have := hb.size; (try simp at this); omega); clear hb))
  all_goals (go_ret; refine ⟨?_, by repeat (first | (with_reducible first | exact HB.out | apply below_alloc | apply below_drew1 | apply pw_below_drewN) | exact HB.out)⟩; clear HB; congr 2; unfold isSeg; first | (simp_all; done) | (simp_all; rfl))
theorem impl_IsSegment.calls (a0_0 : Int) (a0_1 : Int) (a0_2 : Int) (a0_3 : Int) (r : Bool) (w : World) (h : impl_IsSegment.f a0_0 a0_1 a0_2 a0_3 = some r) :
    Calls Try.prog 151 #[.agg #[.int .i64 a0_0, .int .i64 a0_1, .int .i64 a0_2, .int .i64 a0_3]] w fun e w' => e = .returned (.bool (r)) ∧ Below w.heap.size w w' := by
  obtain rfl := Option.some.inj h
  exact (impl_IsSegment.any a0_0 a0_1 a0_2 a0_3 w).mono fun e w' ⟨he, hw⟩ => ⟨he, hw⟩
theorem cmp_isNaN_int.any (a0 : Int) (w : World) :
    Calls Try.prog 156 #[.int .i64 a0] w fun e w' => e = .returned (.bool (false)) ∧ w = w' := by
  go_enter Try.func156, Try.ntmps156; go_wp2
  all_goals (go_ret; refine ⟨?_, rfl⟩; simp)
theorem cmp_Compare_int.any (a0 : Int) (a1 : Int) (w : World) :
    Calls Try.prog 131 #[.int .i64 a0, .int .i64 a1] w fun e w' => e = .returned (.int .i64 (cmpI a0 a1)) ∧ w = w' := by
  go_enter Try.func131, Try.ntmps131; go_wp2_with (first
    | (go_at_call 156; refine (cmp_isNaN_int.any _ _).mono ?_; rintro e w1 ⟨rfl, rfl⟩))
  all_goals (go_ret; refine ⟨?_, rfl⟩; congr 2; first | (simp [cmpI, *]; done) | (unfold cmpI; repeat' split) <;> first | rfl | omega)
theorem impl_cross.any (a0_0 : Int) (a0_1 : Int) (a1_0 : Int) (a1_1 : Int) (a2_0 : Int) (a2_1 : Int) (w : World) :
    Calls Try.prog 149 #[.agg #[.int .i64 a0_0, .int .i64 a0_1], .agg #[.int .i64 a1_0, .int .i64 a1_1], .agg #[.int .i64 a2_0, .int .i64 a2_1]] w fun e w' => e = .returned (.int .i64 (crossI a0_0 a0_1 a1_0 a1_1 a2_0 a2_1)) ∧ Below w.heap.size w w' := by
  have HB := Aside0.mk (Below.refl w.heap.size w)
  go_enter Try.func149, Try.ntmps149; go_wp2
  all_goals (go_ret; refine ⟨?_, by repeat (first | (with_reducible first | exact HB.out | apply below_alloc | apply below_drew1 | apply pw_below_drewN) | exact HB.out)⟩; clear HB; rfl)
set_option maxHeartbeats 4000000 in
theorem impl_SideOf.any (a0_0 : Int) (a0_1 : Int) (a1_0 : Int) (a1_1 : Int) (a2_0 : Int) (a2_1 : Int) (w : World) :
    Calls Try.prog 167 #[.agg #[.int .i64 a0_0, .int .i64 a0_1], .agg #[.int .i64 a1_0, .int .i64 a1_1], .agg #[.int .i64 a2_0, .int .i64 a2_1]] w fun e w' => e = .returned (.int .i64 (sideI a0_0 a0_1 a1_0 a1_1 a2_0 a2_1)) ∧ Below w.heap.size w w' := by
  have HB := Aside0.mk (Below.refl w.heap.size w)
  go_enter Try.func167, Try.ntmps167; go_wp2_with (first
    | (go_at_call 123; refine (impl_IsPoint.any _ _ _).mono ?_; rintro e w1 ⟨rfl, hb⟩; have n0 := Aside0.mk (below_step (by repeat (first | (with_reducible first | exact HB.out | apply below_alloc | apply below_drew1 | apply pw_below_drewN) | exact HB.out)) hb); clear HB; have HB := n0; clear n0; obtain ⟨hc, hf⟩ := bcell hb; have hz0 : w.heap.size < w1.heap.size := (by have := hb.size; (try simp at this); omega); have hz1 : w.heap.size + 1 < w1.heap.size := (by have := hb.size; (try simp at this); omega); have hz2 : w.heap.size + 1 + 1 < w1.heap.size := (by have := hb.size; (try simp at this); omega); clear hb)
    | (go_at_call 149; refine (impl_cross.any _ _ _ _ _ _ _).mono ?_; rintro e w1 ⟨rfl, hb⟩; have n0 := Aside0.mk (below_step (by repeat (first | (with_reducible first | exact HB.out | apply below_alloc | apply below_drew1 | apply pw_below_drewN) | exact HB.out)) hb); clear HB; have HB := n0; clear n0; obtain ⟨hc, hf⟩ := bcell hb; have hz0 : w.heap.size < w1.heap.size := (by have := hb.size; (try simp at this); omega); have hz1 : w.heap.size + 1 < w1.heap.size := (by have := hb.size; (try simp at this); omega); have hz2 : w.heap.size + 1 + 1 < w1.heap.size := (by have := hb.size; (try simp at this); omega); clear hb)
    | (go_at_call 131; refine (cmp_Compare_int.any _ _ _).mono ?_; rintro e w1 ⟨rfl, rfl⟩))
  all_goals (go_ret; refine ⟨?_, by repeat (first | (with_reducible first | exact HB.out | apply below_alloc | apply below_drew1 | apply pw_below_drewN) | exact HB.out)⟩; clear HB; congr 2; unfold sideI; split <;> rename_i hq <;> simp_all)
theorem impl_SideOf.calls (a0_0 : Int) (a0_1 : Int) (a1_0 : Int) (a1_1 : Int) (a2_0 : Int) (a2_1 : Int) (r : Int) (w : World) (h : impl_SideOf.f a0_0 a0_1 a1_0 a1_1 a2_0 a2_1 = some r) :
    Calls Try.prog 167 #[.agg #[.int .i64 a0_0, .int .i64 a0_1], .agg #[.int .i64 a1_0, .int .i64 a1_1], .agg #[.int .i64 a2_0, .int .i64 a2_1]] w fun e w' => e = .returned (.int .i64 (r)) ∧ Below w.heap.size w w' := by
  obtain rfl := Option.some.inj h
  exact (impl_SideOf.any a0_0 a0_1 a1_0 a1_1 a2_0 a2_1 w).mono fun e w' ⟨he, hw⟩ => ⟨he, hw⟩
theorem impl_BeforePoint.any (a0_0 : Int) (a0_1 : Int) (a1_0 : Int) (a1_1 : Int) (w : World) :
    Calls Try.prog 170 #[.agg #[.int .i64 a0_0, .int .i64 a0_1], .agg #[.int .i64 a1_0, .int .i64 a1_1]] w fun e w' => e = .returned (.bool (beforeI a0_0 a0_1 a1_0 a1_1)) ∧ Below w.heap.size w w' := by
  have HB := Aside0.mk (Below.refl w.heap.size w)
  go_enter Try.func170, Try.ntmps170; go_wp2
  all_goals (go_ret; refine ⟨?_, by repeat (first | (with_reducible first | exact HB.out | apply below_alloc | apply below_drew1 | apply pw_below_drewN) | exact HB.out)⟩; clear HB; congr 2; unfold beforeI; simp_all)
theorem impl_BeforePoint.calls (a0_0 : Int) (a0_1 : Int) (a1_0 : Int) (a1_1 : Int) (r : Bool) (w : World) (h : impl_BeforePoint.f a0_0 a0_1 a1_0 a1_1 = some r) :
    Calls Try.prog 170 #[.agg #[.int .i64 a0_0, .int .i64 a0_1], .agg #[.int .i64 a1_0, .int .i64 a1_1]] w fun e w' => e = .returned (.bool (r)) ∧ Below w.heap.size w w' := by
  obtain rfl := Option.some.inj h
  exact (impl_BeforePoint.any a0_0 a0_1 a1_0 a1_1 w).mono fun e w' ⟨he, hw⟩ => ⟨he, hw⟩
set_option maxHeartbeats 4000000 in
theorem impl_IsOn.any (a0_0 : Int) (a0_1 : Int) (a0_2 : Int) (a0_3 : Int) (a1_0 : Int) (a1_1 : Int) (w : World) :
    Calls Try.prog 171 #[.agg #[.int .i64 a0_0, .int .i64 a0_1, .int .i64 a0_2, .int .i64 a0_3], .agg #[.int .i64 a1_0, .int .i64 a1_1]] w fun e w' => e = .returned (.bool (isOnI a0_0 a0_1 a0_2 a0_3 a1_0 a1_1)) ∧ Below w.heap.size w w' := by
  have HB := Aside0.mk (Below.refl w.heap.size w)
  go_enter Try.func171, Try.ntmps171; go_wp2_with (first
    | (go_at_call 151; refine (impl_IsSegment.any _ _ _ _ _).mono ?_; rintro e w1 ⟨rfl, hb⟩; have n0 := Aside0.mk (below_step (by repeat (first | (with_reducible first | exact HB.out | apply below_alloc | apply below_drew1 | apply pw_below_drewN) | exact HB.out)) hb); clear HB; have HB := n0; clear n0; obtain ⟨hc, hf⟩ := bcell hb; have hz0 : w.heap.size < w1.heap.size := (by have := hb.size; (try simp at this); omega); have hz1 : w.heap.size + 1 < w1.heap.size := (by have := hb.size; (try simp at this); omega); clear hb)
    | (go_at_call 123; refine (impl_IsPoint.any _ _ _).mono ?_; rintro e w1 ⟨rfl, hb⟩; have n0 := Aside0.mk (below_step (by repeat (first | (with_reducible first | exact HB.out | apply below_alloc | apply below_drew1 | apply pw_below_drewN) | exact HB.out)) hb); clear HB; have HB := n0; clear n0; obtain ⟨hc, hf⟩ := bcell hb; have hz0 : w.heap.size < w1.heap.size := (by have := hb.size; (try simp at this); omega); have hz1 : w.heap.size + 1 < w1.heap.size := (by have := hb.size; (try simp at this); omega); clear hb)
    | (go_at_call 167; refine (impl_SideOf.any _ _ _ _ _ _ _).mono ?_; rintro e w1 ⟨rfl, hb⟩; have n0 := Aside0.mk (below_step (by repeat (first | (with_reducible first | exact HB.out | apply below_alloc | apply below_drew1 | apply pw_below_drewN) | exact HB.out)) hb); clear HB; have HB := n0; clear n0; obtain ⟨hc, hf⟩ := bcell hb; have hz0 : w.heap.size < w1.heap.size := (by have := hb.size; (try simp at this); omega); have hz1 : w.heap.size + 1 < w1.heap.size := (by have := hb.size; (try simp at this); omega); clear hb)
    | (go_at_call 112; refine (impl_InRange.any _ _ _ _).mono ?_; rintro e w1 ⟨rfl, rfl⟩))
  all_goals (go_ret; refine ⟨?_, by repeat (first | (with_reducible first | exact HB.out | apply below_alloc | apply below_drew1 | apply pw_below_drewN) | exact HB.out)⟩; clear HB; congr 2; unfold isOnI; simp_all [mn_le, mn_lt, mn_ge, mn_gt, mx_le, mx_lt, mx_ge, mx_gt] <;> first | (congr 1; omega) | (congr 1 <;> congr 1 <;> omega) | (have e1 : a0_1 = a0_3 := (by omega); subst e1; simp_all; done) | (have e0 : a0_0 = a0_2 := (by omega); subst e0; simp_all; done) | (have e0 : a0_0 = a0_2 := (by omega); have e1 : a0_1 = a0_3 := (by omega); subst e0; subst e1; simp_all; done))
theorem impl_IsOn.calls (a0_0 : Int) (a0_1 : Int) (a0_2 : Int) (a0_3 : Int) (a1_0 : Int) (a1_1 : Int) (r : Bool) (w : World) (h : impl_IsOn.f a0_0 a0_1 a0_2 a0_3 a1_0 a1_1 = some r) :
    Calls Try.prog 171 #[.agg #[.int .i64 a0_0, .int .i64 a0_1, .int .i64 a0_2, .int .i64 a0_3], .agg #[.int .i64 a1_0, .int .i64 a1_1]] w fun e w' => e = .returned (.bool (r)) ∧ Below w.heap.size w w' := by
  obtain rfl := Option.some.inj h
  exact (impl_IsOn.any a0_0 a0_1 a0_2 a0_3 a1_0 a1_1 w).mono fun e w' ⟨he, hw⟩ => ⟨he, hw⟩
theorem impl_HowMeet.mono_l : ∀ k, (∀ y0 y1 y2 y3 y4 y5 y6 y7 y8, LeO (impl_HowMeet.j0 k y0 y1 y2 y3 y4 y5 y6 y7 y8) (impl_HowMeet.j0 (k + 1) y0 y1 y2 y3 y4 y5 y6 y7 y8)) ∧ (∀ y0 y1 y2 y3 y4 y5 y6 y7 y8 y9 y10, LeO (impl_HowMeet.j1 k y0 y1 y2 y3 y4 y5 y6 y7 y8 y9 y10) (impl_HowMeet.j1 (k + 1) y0 y1 y2 y3 y4 y5 y6 y7 y8 y9 y10)) ∧ (∀ y0 y1 y2 y3 y4 y5 y6 y7, LeO (impl_HowMeet.j2 k y0 y1 y2 y3 y4 y5 y6 y7) (impl_HowMeet.j2 (k + 1) y0 y1 y2 y3 y4 y5 y6 y7)) ∧ (∀ y0 y1 y2 y3, LeO (impl_HowMeet.j3 k y0 y1 y2 y3) (impl_HowMeet.j3 (k + 1) y0 y1 y2 y3)) ∧ (∀ y0 y1 y2 y3 y4 y5 y6 y7 y8, LeO (impl_HowMeet.j4 k y0 y1 y2 y3 y4 y5 y6 y7 y8) (impl_HowMeet.j4 (k + 1) y0 y1 y2 y3 y4 y5 y6 y7 y8))
 | 0 => ⟨fun _ _ _ _ _ _ _ _ _ r h => by simp [impl_HowMeet.j0] at h, fun _ _ _ _ _ _ _ _ _ _ _ r h => by simp [impl_HowMeet.j1] at h, fun _ _ _ _ _ _ _ _ r h => by simp [impl_HowMeet.j2] at h, fun _ _ _ _ r h => by simp [impl_HowMeet.j3] at h, fun _ _ _ _ _ _ _ _ _ r h => by simp [impl_HowMeet.j4] at h⟩
 | k + 1 => by
  obtain ⟨ih0, ih1, ih2, ih3, ih4⟩ := impl_HowMeet.mono_l k; refine ⟨?_, ?_, ?_, ?_, ?_⟩
  ·intro y0 y1 y2 y3 y4 y5 y6 y7 y8
   unfold impl_HowMeet.j0
   repeat' first | (with_reducible first | exact ih0 _ _ _ _ _ _ _ _ _ | exact ih1 _ _ _ _ _ _ _ _ _ _ _ | exact ih2 _ _ _ _ _ _ _ _ | exact ih3 _ _ _ _ | exact ih4 _ _ _ _ _ _ _ _ _ | exact LeO.refl _ | exact LeO.none _ | refine LeO.ite ?_ ?_ | refine LeO.bind ?_ (fun _ => ?_)) | exact ih0 _ _ _ _ _ _ _ _ _ | exact ih1 _ _ _ _ _ _ _ _ _ _ _ | exact ih2 _ _ _ _ _ _ _ _ | exact ih3 _ _ _ _ | exact ih4 _ _ _ _ _ _ _ _ _ | exact LeO.none _ | refine LeO.ite ?_ ?_ | refine LeO.bind ?_ (fun _ => ?_)
  ·intro y0 y1 y2 y3 y4 y5 y6 y7 y8 y9 y10
   unfold impl_HowMeet.j1
   repeat' first | (with_reducible first | exact ih0 _ _ _ _ _ _ _ _ _ | exact ih1 _ _ _ _ _ _ _ _ _ _ _ | exact ih2 _ _ _ _ _ _ _ _ | exact ih3 _ _ _ _ | exact ih4 _ _ _ _ _ _ _ _ _ | exact LeO.refl _ | exact LeO.none _ | refine LeO.ite ?_ ?_ | refine LeO.bind ?_ (fun _ => ?_)) | exact ih0 _ _ _ _ _ _ _ _ _ | exact ih1 _ _ _ _ _ _ _ _ _ _ _ | exact ih2 _ _ _ _ _ _ _ _ | exact ih3 _ _ _ _ | exact ih4 _ _ _ _ _ _ _ _ _ | exact LeO.none _ | refine LeO.ite ?_ ?_ | refine LeO.bind ?_ (fun _ => ?_)
  ·intro y0 y1 y2 y3 y4 y5 y6 y7
   unfold impl_HowMeet.j2
   repeat' first | (with_reducible first | exact ih0 _ _ _ _ _ _ _ _ _ | exact ih1 _ _ _ _ _ _ _ _ _ _ _ | exact ih2 _ _ _ _ _ _ _ _ | exact ih3 _ _ _ _ | exact ih4 _ _ _ _ _ _ _ _ _ | exact LeO.refl _ | exact LeO.none _ | refine LeO.ite ?_ ?_ | refine LeO.bind ?_ (fun _ => ?_)) | exact ih0 _ _ _ _ _ _ _ _ _ | exact ih1 _ _ _ _ _ _ _ _ _ _ _ | exact ih2 _ _ _ _ _ _ _ _ | exact ih3 _ _ _ _ | exact ih4 _ _ _ _ _ _ _ _ _ | exact LeO.none _ | refine LeO.ite ?_ ?_ | refine LeO.bind ?_ (fun _ => ?_)
  ·intro y0 y1 y2 y3
   unfold impl_HowMeet.j3
   repeat' first | (with_reducible first | exact ih0 _ _ _ _ _ _ _ _ _ | exact ih1 _ _ _ _ _ _ _ _ _ _ _ | exact ih2 _ _ _ _ _ _ _ _ | exact ih3 _ _ _ _ | exact ih4 _ _ _ _ _ _ _ _ _ | exact LeO.refl _ | exact LeO.none _ | refine LeO.ite ?_ ?_ | refine LeO.bind ?_ (fun _ => ?_)) | exact ih0 _ _ _ _ _ _ _ _ _ | exact ih1 _ _ _ _ _ _ _ _ _ _ _ | exact ih2 _ _ _ _ _ _ _ _ | exact ih3 _ _ _ _ | exact ih4 _ _ _ _ _ _ _ _ _ | exact LeO.none _ | refine LeO.ite ?_ ?_ | refine LeO.bind ?_ (fun _ => ?_)
  ·intro y0 y1 y2 y3 y4 y5 y6 y7 y8
   unfold impl_HowMeet.j4
   repeat' first | (with_reducible first | exact ih0 _ _ _ _ _ _ _ _ _ | exact ih1 _ _ _ _ _ _ _ _ _ _ _ | exact ih2 _ _ _ _ _ _ _ _ | exact ih3 _ _ _ _ | exact ih4 _ _ _ _ _ _ _ _ _ | exact LeO.refl _ | exact LeO.none _ | refine LeO.ite ?_ ?_ | refine LeO.bind ?_ (fun _ => ?_)) | exact ih0 _ _ _ _ _ _ _ _ _ | exact ih1 _ _ _ _ _ _ _ _ _ _ _ | exact ih2 _ _ _ _ _ _ _ _ | exact ih3 _ _ _ _ | exact ih4 _ _ _ _ _ _ _ _ _ | exact LeO.none _ | refine LeO.ite ?_ ?_ | refine LeO.bind ?_ (fun _ => ?_)
theorem impl_HowMeet.mono : ∀ a0 a1 a2 a3 a4 a5 a6 a7 k, LeO (impl_HowMeet.f k a0 a1 a2 a3 a4 a5 a6 a7) (impl_HowMeet.f (k + 1) a0 a1 a2 a3 a4 a5 a6 a7) := by
 intro a0 a1 a2 a3 a4 a5 a6 a7 k; obtain ⟨ih0, ih1, ih2, ih3, ih4⟩ := impl_HowMeet.mono_l k
 unfold impl_HowMeet.f
 repeat' first | (with_reducible first | exact ih0 _ _ _ _ _ _ _ _ _ | exact ih1 _ _ _ _ _ _ _ _ _ _ _ | exact ih2 _ _ _ _ _ _ _ _ | exact ih3 _ _ _ _ | exact ih4 _ _ _ _ _ _ _ _ _ | exact LeO.refl _ | exact LeO.none _ | refine LeO.ite ?_ ?_ | refine LeO.bind ?_ (fun _ => ?_)) | exact ih0 _ _ _ _ _ _ _ _ _ | exact ih1 _ _ _ _ _ _ _ _ _ _ _ | exact ih2 _ _ _ _ _ _ _ _ | exact ih3 _ _ _ _ | exact ih4 _ _ _ _ _ _ _ _ _ | exact LeO.none _ | refine LeO.ite ?_ ?_ | refine LeO.bind ?_ (fun _ => ?_)
def impl_HowMeet.T3 : Bool × List (List Nat × List Nat) := (true, [([], []), ([0], [0]), ([], []), ([2], [2]), ([], []), ([4], [4]), ([1, 3, 5], [1, 3, 5]), ([], []), ([7], [7]), ([], []), ([9], [9]), ([], []), ([11], [11]), ([8, 10, 12, 6], [8, 10, 12]), ([6, 13, 0, 1, 2, 3, 4, 5, 6], [6]), ([13, 14, 0, 1, 2, 3, 4, 5, 6, 7, 8, 9, 10, 11, 12, 13, 14], [13])])
def impl_HowMeet.B3 : List Nat := [0, 1, 0, 4, 0, 16, 63, 0, 128, 0, 512, 0, 2048, 8191, 16383, 32767]
theorem impl_HowMeet.tab3 : rtab .any (opsOf Try.f152 3) = impl_HowMeet.T3 := by kernel_rfl
theorem impl_HowMeet.bits3 : waitsOk impl_HowMeet.T3.2 impl_HowMeet.B3 = true := by kernel_rfl
def impl_HowMeet.T6 : Bool × List (List Nat × List Nat) := (true, [([], []), ([0], [0]), ([], []), ([2], [2]), ([], []), ([], []), ([4, 1, 0, 1, 4, 5], [1, 4]), ([5, 3, 6, 0, 1, 2, 3, 4, 5, 6], [3, 5])])
def impl_HowMeet.B6 : List Nat := [0, 1, 0, 4, 0, 0, 51, 127]
theorem impl_HowMeet.tab6 : rtab .any (opsOf Try.f152 6) = impl_HowMeet.T6 := by kernel_rfl
theorem impl_HowMeet.bits6 : waitsOk impl_HowMeet.T6.2 impl_HowMeet.B6 = true := by kernel_rfl
def impl_HowMeet.T16 : Bool × List (List Nat × List Nat) := (true, [([], []), ([], []), ([0, 1], [0, 1]), ([2], [2]), ([3], [3]), ([4], [4]), ([5, 4], [4, 5]), ([4], [4]), ([7, 4], [4, 7]), ([4], [4]), ([9, 4], [4, 9]), ([6, 8, 10, 4, 4], [4, 6, 8, 10]), ([4], [4]), ([12, 4], [4, 12]), ([4], [4]), ([14, 4], [4, 14]), ([4], [4]), ([16, 4], [4, 16]), ([13, 15, 17, 11, 4], [4, 13, 15, 17]), ([11, 18, 4], [4, 11, 18]), ([19, 4], [4, 19]), ([4, 20], [4, 20])])
def impl_HowMeet.B16 : List Nat := [0, 0, 3, 7, 15, 31, 63, 31, 159, 31, 543, 2047, 31, 4127, 31, 16415, 31, 65567, 262143, 524287, 1048575, 2097151]
theorem impl_HowMeet.tab16 : rtab .any (opsOf Try.f152 16) = impl_HowMeet.T16 := by kernel_rfl
theorem impl_HowMeet.bits16 : waitsOk impl_HowMeet.T16.2 impl_HowMeet.B16 = true := by kernel_rfl
theorem impl_BoxOf.mono_l : ∀ k, (∀ y0 y1 y2 y3 y4 y5 y6, LeO (impl_BoxOf.l0 k y0 y1 y2 y3 y4 y5 y6) (impl_BoxOf.l0 (k + 1) y0 y1 y2 y3 y4 y5 y6))
 | 0 => fun _ _ _ _ _ _ _ r h => by simp [impl_BoxOf.l0] at h
 | k + 1 => by
  have ih0 := impl_BoxOf.mono_l k
  ·intro y0 y1 y2 y3 y4 y5 y6
   unfold impl_BoxOf.l0
   repeat' first | (with_reducible first | exact ih0 _ _ _ _ _ _ _ | exact LeO.refl _ | exact LeO.none _ | refine LeO.ite ?_ ?_ | refine LeO.bind ?_ (fun _ => ?_)) | exact ih0 _ _ _ _ _ _ _ | exact LeO.none _ | refine LeO.ite ?_ ?_ | refine LeO.bind ?_ (fun _ => ?_)
theorem impl_BoxOf.mono : ∀ a0 k, LeO (impl_BoxOf.f k a0) (impl_BoxOf.f (k + 1) a0) := by
 intro a0 k; have ih0 := impl_BoxOf.mono_l k
 unfold impl_BoxOf.f
 repeat' first | (with_reducible first | exact ih0 _ _ _ _ _ _ _ | exact LeO.refl _ | exact LeO.none _ | refine LeO.ite ?_ ?_ | refine LeO.bind ?_ (fun _ => ?_)) | exact ih0 _ _ _ _ _ _ _ | exact LeO.none _ | refine LeO.ite ?_ ?_ | refine LeO.bind ?_ (fun _ => ?_)
def impl_BoxOf.T3 : Bool × List (List Nat × List Nat) := (true, [([], []), ([0], [0]), ([1], [1]), ([], []), ([3], [3]), ([4], [4]), ([2, 5], [2, 5]), ([], []), ([7, 6, 0, 1, 2, 3, 4, 5, 6, 7], [6, 7])])
def impl_BoxOf.B3 : List Nat := [0, 1, 3, 0, 8, 24, 63, 0, 255]
theorem impl_BoxOf.tab3 : rtab .any (opsOf Try.f165 3) = impl_BoxOf.T3 := by kernel_rfl
theorem impl_BoxOf.bits3 : waitsOk impl_BoxOf.T3.2 impl_BoxOf.B3 = true := by kernel_rfl
def impl_BoxOf.T9 : Bool × List (List Nat × List Nat) := (true, [([], []), ([0], [0]), ([1], [1]), ([], []), ([3], [3]), ([2, 4], [2, 4]), ([], []), ([6], [6]), ([7], [7]), ([], []), ([9], [9]), ([8, 10], [8, 10]), ([5, 11], [5, 11]), ([], []), ([13], [13]), ([14], [14]), ([], []), ([16], [16]), ([15, 17], [15, 17]), ([], []), ([19], [19]), ([20], [20]), ([], []), ([22], [22]), ([21, 23], [21, 23]), ([18, 24], [18, 24]), ([0, 1, 2, 3, 4, 5, 6, 7, 8, 9, 10, 11, 12, 13, 14, 15, 19, 20, 21], []), ([26, 12, 0, 1, 2, 3, 4, 5, 6, 7, 8, 9, 10, 11, 12, 13, 14, 15, 19, 20, 21], [12, 26]), ([0, 1, 2, 3, 4, 5, 6, 7, 8, 9, 10, 11, 12, 13, 14, 15, 16, 17, 18, 19, 20, 21, 22, 23, 24, 25, 26, 27], []), ([28, 25, 27, 0, 1, 2, 3, 4, 5, 6, 7, 8, 9, 10, 11, 12, 13, 14, 15, 16, 17, 18, 19, 20, 21, 22, 23, 24, 25, 26, 27], [25, 28])])
def impl_BoxOf.B9 : List Nat := [0, 1, 3, 0, 8, 31, 0, 64, 192, 0, 512, 1984, 4095, 0, 8192, 24576, 0, 65536, 253952, 0, 524288, 1572864, 0, 4194304, 16252928, 33546240, 3735551, 70844415, 268435455, 536870911]
theorem impl_BoxOf.tab9 : rtab .any (opsOf Try.f165 9) = impl_BoxOf.T9 := by kernel_rfl
theorem impl_BoxOf.bits9 : waitsOk impl_BoxOf.T9.2 impl_BoxOf.B9 = true := by kernel_rfl
set_option maxHeartbeats 8000000 in
set_option maxRecDepth 100000 in
theorem impl_BoxOf.calls (k : Nat) (A0 : Option Addr) (c0 : Nat) (l0 : List (S82)) (r1 : Int) (r2 : Int) (r3 : Int) (r4 : Int) (r5 : Bool) (w : World) (hr0 : Kd.C k82 w A0 l0.length l0) (hc0 : l0.length ≤ c0) (h : impl_BoxOf.f k l0 = some (r1, r2, r3, r4, r5)) :
  Calls Try.prog 165 #[.slice A0 l0.length c0] w fun e w' => e = .returned (.tuple #[.agg #[.int .i64 r1, .int .i64 r2, .int .i64 r3, .int .i64 r4], .bool r5]) ∧ Below w.heap.size w w' := by
 have hu98 := Try.underlying98; have hu82 := Try.underlying82; have HR0 := Aside0.mk hr0; have HC0 := Aside0.mk hc0; clear hr0 hc0; have HB := Aside0.mk (Below.refl w.heap.size w); have H : (if (l0.length : Int) = 0 then (some (0, 0, 0, 0, false)) else (if 0 < (l0.length : Int) then (impl_BoxOf.l0 k l0 (l0.length : Int) 0 ((rd_T82 l0 0).f0) ((rd_T82 l0 0).f1) ((rd_T82 l0 0).f0) ((rd_T82 l0 0).f1)) else (none))) = some (r1, r2, r3, r4, r5) := h; clear h
 by_cases c2 : (l0.length : Int) = 0
 ·rw [if_pos c2] at H; have c2b0 : ((l0.length : Int) == 0) = true := beq_iff_eq.mpr c2; have c2b1 : ((l0.length : Int) != 0) = false := bne_eq_false_iff_eq.mpr c2; clear c2; simp only [Option.some.injEq, Prod.mk.injEq] at H; obtain ⟨rfl, rfl, rfl, rfl, rfl⟩ := H
  go_enter Try.func165, Try.ntmps165; go_wp2_with (first | ((with_reducible refine gt (some 2) rfl ?_); refine bx #[.int .i64 0, .int .i64 0, .int .i64 0, .int .i64 0] 98 ?_; intro gb459 hg w3 hbox hb; have BK459 := Aside0.mk (hbox); have GW459 := Aside0.mk (gez HB hg); have GE459 := Aside0.mk (gez HB hg); replace HB := Aside0.mk (below_step bz hb); clear hb hbox hg; obtain ⟨hcz4_0, hcz4_1, hcz4_2, hcz4_3, hfz4_0, hfz4_1, hfz4_2, hfz4_3⟩ := cells4 BK459)); refine bodyPost_ret (results_ct rfl _ _ gb459 98 #[.int .i64 0, .int .i64 0, .int .i64 0, .int .i64 0] (0, 0) _ rfl (by (with_reducible repeat (first | refine blk_drewN ?_ _ | refine blk_drew ?_ | refine blk_alloc ?_ _)); refine blk_put (cs := #[.int .i64 0, .int .i64 0, .int .i64 0, .int .i64 0]) ?_ 3 _ rfl; (with_reducible repeat (first | refine blk_drewN ?_ _ | refine blk_drew ?_ | refine blk_alloc ?_ _)); refine blk_put (cs := #[.int .i64 0, .int .i64 0, .int .i64 0, .int .i64 0]) ?_ 2 _ rfl; (with_reducible repeat (first | refine blk_drewN ?_ _ | refine blk_drew ?_ | refine blk_alloc ?_ _)); refine blk_put (cs := #[.int .i64 0, .int .i64 0, .int .i64 0, .int .i64 0]) ?_ 1 _ rfl; (with_reducible repeat (first | refine blk_drewN ?_ _ | refine blk_drew ?_ | refine blk_alloc ?_ _)); refine blk_put (cs := #[.int .i64 0, .int .i64 0, .int .i64 0, .int .i64 0]) ?_ 0 _ rfl; (with_reducible repeat (first | refine blk_drewN ?_ _ | refine blk_drew ?_ | refine blk_alloc ?_ _)); exact BK459.out) Try.underlying98 rfl (by kernel_rfl)) rfl ?_
  exact ⟨ez, bzs⟩
 ·rw [if_neg c2] at H; have c2b0 : ((l0.length : Int) == 0) = false := beq_eq_false_iff_ne.mpr c2; have c2b1 : ((l0.length : Int) != 0) = true := bne_iff_ne.mpr c2; have c2b2 : ¬ (l0 = []) := fun h_ => c2 (by rw [h_]; rfl)
  by_cases c5 : 0 < (l0.length : Int)
  ·rw [if_pos c5] at H; have c5b0 := decide_eq_true c5; have c5b1 : decide (0 < l0.length) = true := decide_eq_true (by omega); clear c5; have H' := Aside0.mk H; clear H
   go_enter Try.func165, Try.ntmps165; (try go_wp2_with (first | ((with_reducible refine gt (some 2) rfl ?_); refine bx #[.int .i64 0, .int .i64 0, .int .i64 0, .int .i64 0] 98 ?_; intro gb459 hg w6 hbox hb; have BK459 := Aside0.mk (hbox); have GW459 := Aside0.mk (gez HB hg); have GE459 := Aside0.mk (gez HB hg); replace HB := Aside0.mk (below_step bz hb); clear hb hbox hg))); replace BK459 := Aside0.mk (blk_drew BK459.out); replace HB := Aside0.mk (below_drew1 HB.out); have p460 : 0 ≤ (0 : Int) := (by omega)
   have q460 : 0 < (l0.length : Int) := of_decide_eq_true az; obtain ⟨ad460, e460, hx460_0, hx460_1⟩ := at_T82 HR0.out 0 p460 q460; have hw460_1 := hx460_1; (try rw [show ((0 : Int)).toNat = 0 from rfl] at hw460_1); (try rw [show 0 * 2 = 0 from rfl] at hw460_1); (try rw [Addr.add_zero'] at hw460_1); have hw460_0 := hx460_0; (try rw [show ((0 : Int)).toNat = 0 from rfl] at hw460_0); (try rw [show 0 * 2 = 0 from rfl] at hw460_0); (try rw [Addr.add_zero'] at hw460_0)
   cases e460
   have qi460 : (0 < l0.length) = True := eq_true (by omega); (try rw [show ((0 : Int)).toNat = 0 from rfl] at hx460_0); (try rw [show 0 * 2 = 0 from rfl] at hx460_0); (try rw [Addr.add_zero'] at hx460_0); (try rw [show ((0 : Int)).toNat = 0 from rfl] at hx460_1); (try rw [show 0 * 2 = 0 from rfl] at hx460_1); (try rw [Addr.add_zero'] at hx460_1); replace hx460_0 := xz HB hx460_0; replace hx460_1 := xz HB hx460_1; replace p460 := eq_true p460; replace q460 := eq_true q460; have p461 : 0 ≤ (0 : Int) := (by omega)
   have q461 : 0 < (l0.length : Int) := of_decide_eq_true az; obtain ⟨ad461, e461, hx461_0, hx461_1⟩ := at_T82 HR0.out 0 p461 q461; have hw461_1 := hx461_1; (try rw [show ((0 : Int)).toNat = 0 from rfl] at hw461_1); (try rw [show 0 * 2 = 0 from rfl] at hw461_1); (try rw [Addr.add_zero'] at hw461_1); have hw461_0 := hx461_0; (try rw [show ((0 : Int)).toNat = 0 from rfl] at hw461_0); (try rw [show 0 * 2 = 0 from rfl] at hw461_0); (try rw [Addr.add_zero'] at hw461_0); obtain rfl : ad460 = ad461 := (by injection e461)
   have qi461 : (0 < l0.length) = True := eq_true (by omega); (try rw [show ((0 : Int)).toNat = 0 from rfl] at hx461_0); (try rw [show 0 * 2 = 0 from rfl] at hx461_0); (try rw [Addr.add_zero'] at hx461_0); (try rw [show ((0 : Int)).toNat = 0 from rfl] at hx461_1); (try rw [show 0 * 2 = 0 from rfl] at hx461_1); (try rw [Addr.add_zero'] at hx461_1); replace hx461_0 := xz HB hx461_0; replace hx461_1 := xz HB hx461_1; replace p461 := eq_true p461; replace q461 := eq_true q461; refine start_ (n := 9) (S := fun w' => w'.cell? ad460 = some (.int .i64 ((rd_T82 l0 0).f0)) ∧ w'.cell? ⟨ad460.block, ad460.off + 1, none⟩ = some (.int .i64 ((rd_T82 l0 0).f1)) ∧ w'.cell? ad460 = some (.int .i64 ((rd_T82 l0 0).f0)) ∧ w'.cell? ⟨ad460.block, ad460.off + 1, none⟩ = some (.int .i64 ((rd_T82 l0 0).f1))) (ds := []) #[F,F,F,F,F,F,F,F,F] (by kernel_rfl) rfl rfl ⟨(xz HB hw460_0 :), (xz HB hw460_1 :), (xz HB hw461_0 :), (xz HB hw461_1 :)⟩ (fun hHeld => ?_); refine with_tabW impl_BoxOf.tab3 impl_BoxOf.bits3 (fun HT_ HW_ => ?_); generalize w6.drew = w7 at BK459 HB hx460_0 hx460_1 hx461_0 hx461_1 hHeld ⊢; refine pz HT_ 0 11 ?_; refine pz HT_ 1 12 ?_; refine pz HT_ 3 14 ?_; refine pz HT_ 4 15 ?_; refine tz4 HT_ HW_ hHeld 2 13 ?_; refine tz4 HT_ HW_ hHeld 5 16 ?_; refine pz HT_ 6 17 ?_; refine oz HT_ 7 (some 4) (fun K hK => ?_); refine box_step ?hg (N := 4) ?hd (cs := #[.int .i64 0, .int .i64 0, .int .i64 0, .int .i64 0]) (t := 98) ?hr ?_; (case hd => rfl); (case hg => rfl); (case hr => first | (go_simp; done) | (go_simp; rfl))
   intro gb462 hg w8 hbox hb; have BK462 := Aside0.mk (hbox); have GW462 := Aside0.mk (gez HB hg); have GE462 := Aside0.mk (gez HB hg); replace HB := Aside0.mk (below_step bzs hb); have NB459_462 := Aside0.mk ((by rw [hg]; exact Nat.ne_of_lt (blk_lt (g := gb459) (o := .cells #[.int .i64 0, .int .i64 0, .int .i64 0, .int .i64 0] 98 (0, 0)) (kz BK459)) : gb459 ≠ gb462)); have NB462_459 := Aside0.mk ((by rw [hg]; exact Nat.ne_of_gt (blk_lt (g := gb459) (o := .cells #[.int .i64 0, .int .i64 0, .int .i64 0, .int .i64 0] 98 (0, 0)) (kz BK459)) : gb462 ≠ gb459)); replace BK459 := Aside0.mk (bbz BK459 hb); clear hb hbox hg; refine hK.out _ _ ⟨(xz HB hw460_0 :), (xz HB hw460_1 :), (xz HB hw461_0 :), (xz HB hw461_1 :)⟩ (fun hHeld => ?_); clear hK K; refine nz 4 ?_; refine oz HT_ 8 none (fun K hK => ?_); have hs9 : w8.cell? ⟨gb462, 0, none⟩ = some (.int .i64 0) := bc BK462 0; have hfs9 := blk_frozen BK462.out 0; have hns9_0 := NB459_462.out; have hms9_0 := NB462_459.out; have hs10 : w8.cell? ⟨gb462, 1, none⟩ = some (.int .i64 0) := bc BK462 1; have hfs10 := blk_frozen BK462.out 1; have hns10_0 := NB459_462.out; have hms10_0 := NB462_459.out; have hs11 : w8.cell? ⟨gb462, 2, none⟩ = some (.int .i64 0) := bc BK462 2; have hfs11 := blk_frozen BK462.out 2; have hns11_0 := NB459_462.out; have hms11_0 := NB462_459.out; have hs12 : w8.cell? ⟨gb462, 3, none⟩ = some (.int .i64 0) := bc BK462 3; have hfs12 := blk_frozen BK462.out 3; have hns12_0 := NB459_462.out; have hms12_0 := NB462_459.out; refine skip_ (w1 := ?_) (by rfl) rfl ?_ ?_
   rotate_left
   ·go_simp
    rfl
   refine hK.out _ _ ⟨((cell_far (p := ⟨gb462, _, none⟩) (by first | exact Nat.ne_of_lt (Nat.lt_of_lt_of_le (by have := World.block_lt_of_cell? _ _ hw460_0; first | rwa [add_block] at this | exact this) GW462.out) | (rw [add_block]; exact Nat.ne_of_lt (Nat.lt_of_lt_of_le (by have := World.block_lt_of_cell? _ _ hw460_0; first | rwa [add_block] at this | exact this) GW462.out)) | (show (Addr.add _ _).block ≠ _; rw [add_block]; exact Nat.ne_of_lt (Nat.lt_of_lt_of_le (by have := World.block_lt_of_cell? _ _ hw460_0; first | rwa [add_block] at this | exact this) GW462.out)) | (dsimp only; exact Nat.ne_of_lt (Nat.lt_of_lt_of_le (by have := World.block_lt_of_cell? _ _ hw460_0; first | rwa [add_block] at this | exact this) GW462.out))) _).trans (((cell_far (p := ⟨gb462, _, none⟩) (by first | exact Nat.ne_of_lt (Nat.lt_of_lt_of_le (by have := World.block_lt_of_cell? _ _ hw460_0; first | rwa [add_block] at this | exact this) GW462.out) | (rw [add_block]; exact Nat.ne_of_lt (Nat.lt_of_lt_of_le (by have := World.block_lt_of_cell? _ _ hw460_0; first | rwa [add_block] at this | exact this) GW462.out)) | (show (Addr.add _ _).block ≠ _; rw [add_block]; exact Nat.ne_of_lt (Nat.lt_of_lt_of_le (by have := World.block_lt_of_cell? _ _ hw460_0; first | rwa [add_block] at this | exact this) GW462.out)) | (dsimp only; exact Nat.ne_of_lt (Nat.lt_of_lt_of_le (by have := World.block_lt_of_cell? _ _ hw460_0; first | rwa [add_block] at this | exact this) GW462.out))) _).trans (((cell_far (p := ⟨gb462, _, none⟩) (by first | exact Nat.ne_of_lt (Nat.lt_of_lt_of_le (by have := World.block_lt_of_cell? _ _ hw460_0; first | rwa [add_block] at this | exact this) GW462.out) | (rw [add_block]; exact Nat.ne_of_lt (Nat.lt_of_lt_of_le (by have := World.block_lt_of_cell? _ _ hw460_0; first | rwa [add_block] at this | exact this) GW462.out)) | (show (Addr.add _ _).block ≠ _; rw [add_block]; exact Nat.ne_of_lt (Nat.lt_of_lt_of_le (by have := World.block_lt_of_cell? _ _ hw460_0; first | rwa [add_block] at this | exact this) GW462.out)) | (dsimp only; exact Nat.ne_of_lt (Nat.lt_of_lt_of_le (by have := World.block_lt_of_cell? _ _ hw460_0; first | rwa [add_block] at this | exact this) GW462.out))) _).trans (((cell_far (p := ⟨gb462, _, none⟩) (by first | exact Nat.ne_of_lt (Nat.lt_of_lt_of_le (by have := World.block_lt_of_cell? _ _ hw460_0; first | rwa [add_block] at this | exact this) GW462.out) | (rw [add_block]; exact Nat.ne_of_lt (Nat.lt_of_lt_of_le (by have := World.block_lt_of_cell? _ _ hw460_0; first | rwa [add_block] at this | exact this) GW462.out)) | (show (Addr.add _ _).block ≠ _; rw [add_block]; exact Nat.ne_of_lt (Nat.lt_of_lt_of_le (by have := World.block_lt_of_cell? _ _ hw460_0; first | rwa [add_block] at this | exact this) GW462.out)) | (dsimp only; exact Nat.ne_of_lt (Nat.lt_of_lt_of_le (by have := World.block_lt_of_cell? _ _ hw460_0; first | rwa [add_block] at this | exact this) GW462.out))) _).trans (hHeld.1)))))))), ((cell_far (p := ⟨gb462, _, none⟩) (by first | exact Nat.ne_of_lt (Nat.lt_of_lt_of_le (by have := World.block_lt_of_cell? _ _ hw460_1; first | rwa [add_block] at this | exact this) GW462.out) | (rw [add_block]; exact Nat.ne_of_lt (Nat.lt_of_lt_of_le (by have := World.block_lt_of_cell? _ _ hw460_1; first | rwa [add_block] at this | exact this) GW462.out)) | (show (Addr.add _ _).block ≠ _; rw [add_block]; exact Nat.ne_of_lt (Nat.lt_of_lt_of_le (by have := World.block_lt_of_cell? _ _ hw460_1; first | rwa [add_block] at this | exact this) GW462.out)) | (dsimp only; exact Nat.ne_of_lt (Nat.lt_of_lt_of_le (by have := World.block_lt_of_cell? _ _ hw460_1; first | rwa [add_block] at this | exact this) GW462.out))) _).trans (((cell_far (p := ⟨gb462, _, none⟩) (by first | exact Nat.ne_of_lt (Nat.lt_of_lt_of_le (by have := World.block_lt_of_cell? _ _ hw460_1; first | rwa [add_block] at this | exact this) GW462.out) | (rw [add_block]; exact Nat.ne_of_lt (Nat.lt_of_lt_of_le (by have := World.block_lt_of_cell? _ _ hw460_1; first | rwa [add_block] at this | exact this) GW462.out)) | (show (Addr.add _ _).block ≠ _; rw [add_block]; exact Nat.ne_of_lt (Nat.lt_of_lt_of_le (by have := World.block_lt_of_cell? _ _ hw460_1; first | rwa [add_block] at this | exact this) GW462.out)) | (dsimp only; exact Nat.ne_of_lt (Nat.lt_of_lt_of_le (by have := World.block_lt_of_cell? _ _ hw460_1; first | rwa [add_block] at this | exact this) GW462.out))) _).trans (((cell_far (p := ⟨gb462, _, none⟩) (by first | exact Nat.ne_of_lt (Nat.lt_of_lt_of_le (by have := World.block_lt_of_cell? _ _ hw460_1; first | rwa [add_block] at this | exact this) GW462.out) | (rw [add_block]; exact Nat.ne_of_lt (Nat.lt_of_lt_of_le (by have := World.block_lt_of_cell? _ _ hw460_1; first | rwa [add_block] at this | exact this) GW462.out)) | (show (Addr.add _ _).block ≠ _; rw [add_block]; exact Nat.ne_of_lt (Nat.lt_of_lt_of_le (by have := World.block_lt_of_cell? _ _ hw460_1; first | rwa [add_block] at this | exact this) GW462.out)) | (dsimp only; exact Nat.ne_of_lt (Nat.lt_of_lt_of_le (by have := World.block_lt_of_cell? _ _ hw460_1; first | rwa [add_block] at this | exact this) GW462.out))) _).trans (((cell_far (p := ⟨gb462, _, none⟩) (by first | exact Nat.ne_of_lt (Nat.lt_of_lt_of_le (by have := World.block_lt_of_cell? _ _ hw460_1; first | rwa [add_block] at this | exact this) GW462.out) | (rw [add_block]; exact Nat.ne_of_lt (Nat.lt_of_lt_of_le (by have := World.block_lt_of_cell? _ _ hw460_1; first | rwa [add_block] at this | exact this) GW462.out)) | (show (Addr.add _ _).block ≠ _; rw [add_block]; exact Nat.ne_of_lt (Nat.lt_of_lt_of_le (by have := World.block_lt_of_cell? _ _ hw460_1; first | rwa [add_block] at this | exact this) GW462.out)) | (dsimp only; exact Nat.ne_of_lt (Nat.lt_of_lt_of_le (by have := World.block_lt_of_cell? _ _ hw460_1; first | rwa [add_block] at this | exact this) GW462.out))) _).trans (hHeld.2.1)))))))), ((cell_far (p := ⟨gb462, _, none⟩) (by first | exact Nat.ne_of_lt (Nat.lt_of_lt_of_le (by have := World.block_lt_of_cell? _ _ hw461_0; first | rwa [add_block] at this | exact this) GW462.out) | (rw [add_block]; exact Nat.ne_of_lt (Nat.lt_of_lt_of_le (by have := World.block_lt_of_cell? _ _ hw461_0; first | rwa [add_block] at this | exact this) GW462.out)) | (show (Addr.add _ _).block ≠ _; rw [add_block]; exact Nat.ne_of_lt (Nat.lt_of_lt_of_le (by have := World.block_lt_of_cell? _ _ hw461_0; first | rwa [add_block] at this | exact this) GW462.out)) | (dsimp only; exact Nat.ne_of_lt (Nat.lt_of_lt_of_le (by have := World.block_lt_of_cell? _ _ hw461_0; first | rwa [add_block] at this | exact this) GW462.out))) _).trans (((cell_far (p := ⟨gb462, _, none⟩) (by first | exact Nat.ne_of_lt (Nat.lt_of_lt_of_le (by have := World.block_lt_of_cell? _ _ hw461_0; first | rwa [add_block] at this | exact this) GW462.out) | (rw [add_block]; exact Nat.ne_of_lt (Nat.lt_of_lt_of_le (by have := World.block_lt_of_cell? _ _ hw461_0; first | rwa [add_block] at this | exact this) GW462.out)) | (show (Addr.add _ _).block ≠ _; rw [add_block]; exact Nat.ne_of_lt (Nat.lt_of_lt_of_le (by have := World.block_lt_of_cell? _ _ hw461_0; first | rwa [add_block] at this | exact this) GW462.out)) | (dsimp only; exact Nat.ne_of_lt (Nat.lt_of_lt_of_le (by have := World.block_lt_of_cell? _ _ hw461_0; first | rwa [add_block] at this | exact this) GW462.out))) _).trans (((cell_far (p := ⟨gb462, _, none⟩) (by first | exact Nat.ne_of_lt (Nat.lt_of_lt_of_le (by have := World.block_lt_of_cell? _ _ hw461_0; first | rwa [add_block] at this | exact this) GW462.out) | (rw [add_block]; exact Nat.ne_of_lt (Nat.lt_of_lt_of_le (by have := World.block_lt_of_cell? _ _ hw461_0; first | rwa [add_block] at this | exact this) GW462.out)) | (show (Addr.add _ _).block ≠ _; rw [add_block]; exact Nat.ne_of_lt (Nat.lt_of_lt_of_le (by have := World.block_lt_of_cell? _ _ hw461_0; first | rwa [add_block] at this | exact this) GW462.out)) | (dsimp only; exact Nat.ne_of_lt (Nat.lt_of_lt_of_le (by have := World.block_lt_of_cell? _ _ hw461_0; first | rwa [add_block] at this | exact this) GW462.out))) _).trans (((cell_far (p := ⟨gb462, _, none⟩) (by first | exact Nat.ne_of_lt (Nat.lt_of_lt_of_le (by have := World.block_lt_of_cell? _ _ hw461_0; first | rwa [add_block] at this | exact this) GW462.out) | (rw [add_block]; exact Nat.ne_of_lt (Nat.lt_of_lt_of_le (by have := World.block_lt_of_cell? _ _ hw461_0; first | rwa [add_block] at this | exact this) GW462.out)) | (show (Addr.add _ _).block ≠ _; rw [add_block]; exact Nat.ne_of_lt (Nat.lt_of_lt_of_le (by have := World.block_lt_of_cell? _ _ hw461_0; first | rwa [add_block] at this | exact this) GW462.out)) | (dsimp only; exact Nat.ne_of_lt (Nat.lt_of_lt_of_le (by have := World.block_lt_of_cell? _ _ hw461_0; first | rwa [add_block] at this | exact this) GW462.out))) _).trans (hHeld.2.2.1)))))))), ((cell_far (p := ⟨gb462, _, none⟩) (by first | exact Nat.ne_of_lt (Nat.lt_of_lt_of_le (by have := World.block_lt_of_cell? _ _ hw461_1; first | rwa [add_block] at this | exact this) GW462.out) | (rw [add_block]; exact Nat.ne_of_lt (Nat.lt_of_lt_of_le (by have := World.block_lt_of_cell? _ _ hw461_1; first | rwa [add_block] at this | exact this) GW462.out)) | (show (Addr.add _ _).block ≠ _; rw [add_block]; exact Nat.ne_of_lt (Nat.lt_of_lt_of_le (by have := World.block_lt_of_cell? _ _ hw461_1; first | rwa [add_block] at this | exact this) GW462.out)) | (dsimp only; exact Nat.ne_of_lt (Nat.lt_of_lt_of_le (by have := World.block_lt_of_cell? _ _ hw461_1; first | rwa [add_block] at this | exact this) GW462.out))) _).trans (((cell_far (p := ⟨gb462, _, none⟩) (by first | exact Nat.ne_of_lt (Nat.lt_of_lt_of_le (by have := World.block_lt_of_cell? _ _ hw461_1; first | rwa [add_block] at this | exact this) GW462.out) | (rw [add_block]; exact Nat.ne_of_lt (Nat.lt_of_lt_of_le (by have := World.block_lt_of_cell? _ _ hw461_1; first | rwa [add_block] at this | exact this) GW462.out)) | (show (Addr.add _ _).block ≠ _; rw [add_block]; exact Nat.ne_of_lt (Nat.lt_of_lt_of_le (by have := World.block_lt_of_cell? _ _ hw461_1; first | rwa [add_block] at this | exact this) GW462.out)) | (dsimp only; exact Nat.ne_of_lt (Nat.lt_of_lt_of_le (by have := World.block_lt_of_cell? _ _ hw461_1; first | rwa [add_block] at this | exact this) GW462.out))) _).trans (((cell_far (p := ⟨gb462, _, none⟩) (by first | exact Nat.ne_of_lt (Nat.lt_of_lt_of_le (by have := World.block_lt_of_cell? _ _ hw461_1; first | rwa [add_block] at this | exact this) GW462.out) | (rw [add_block]; exact Nat.ne_of_lt (Nat.lt_of_lt_of_le (by have := World.block_lt_of_cell? _ _ hw461_1; first | rwa [add_block] at this | exact this) GW462.out)) | (show (Addr.add _ _).block ≠ _; rw [add_block]; exact Nat.ne_of_lt (Nat.lt_of_lt_of_le (by have := World.block_lt_of_cell? _ _ hw461_1; first | rwa [add_block] at this | exact this) GW462.out)) | (dsimp only; exact Nat.ne_of_lt (Nat.lt_of_lt_of_le (by have := World.block_lt_of_cell? _ _ hw461_1; first | rwa [add_block] at this | exact this) GW462.out))) _).trans (((cell_far (p := ⟨gb462, _, none⟩) (by first | exact Nat.ne_of_lt (Nat.lt_of_lt_of_le (by have := World.block_lt_of_cell? _ _ hw461_1; first | rwa [add_block] at this | exact this) GW462.out) | (rw [add_block]; exact Nat.ne_of_lt (Nat.lt_of_lt_of_le (by have := World.block_lt_of_cell? _ _ hw461_1; first | rwa [add_block] at this | exact this) GW462.out)) | (show (Addr.add _ _).block ≠ _; rw [add_block]; exact Nat.ne_of_lt (Nat.lt_of_lt_of_le (by have := World.block_lt_of_cell? _ _ hw461_1; first | rwa [add_block] at this | exact this) GW462.out)) | (dsimp only; exact Nat.ne_of_lt (Nat.lt_of_lt_of_le (by have := World.block_lt_of_cell? _ _ hw461_1; first | rwa [add_block] at this | exact this) GW462.out))) _).trans (hHeld.2.2.2))))))))⟩ (fun hHeld => ?_)
   clear hK K; refine dz HT_ ?_; (try go_wp2)
   go_loopg [20] k (fun kq v20 w' => ∃ (x20_1 : Int) (x460000_1 : Int) (x460001_1 : Int) (x460002_1 : Int) (x460003_1 : Int) (x463000_1 : Int) (x463001_1 : Int) (x463002_1 : Int) (x463003_1 : Int), v20 = .int .i64 x20_1 ∧ Aside0 (impl_BoxOf.l0 kq l0 (l0.length : Int) x20_1 x463000_1 x463001_1 x463002_1 x463003_1 = some (r1, r2, r3, r4, r5)) ∧ Aside0 (kq ≤ k) ∧ Aside0 (w'.heap[gb459]? = some (.cells #[.int .i64 x460000_1, .int .i64 x460001_1, .int .i64 x460002_1, .int .i64 x460003_1] 98 (0, 0))) ∧ Aside0 (w'.heap[gb462]? = some (.cells #[.int .i64 x463000_1, .int .i64 x463001_1, .int .i64 x463002_1, .int .i64 x463003_1] 98 (0, 0))) ∧ Aside0 (Below w.heap.size w w'))
   case atStart => exact ⟨(0), (0), (0), (0), (0), ((rd_T82 l0 0).f0), ((rd_T82 l0 0).f1), ((rd_T82 l0 0).f0), ((rd_T82 l0 0).f1), rz, H', ⟨Nat.le_refl _⟩, ⟨kz BK459⟩, ⟨by (with_reducible repeat (first | refine blk_drewN ?_ _ | refine blk_drew ?_ | refine blk_alloc ?_ _)); refine blk_put (cs := #[.int .i64 ((rd_T82 l0 0).f0), .int .i64 ((rd_T82 l0 0).f1), .int .i64 ((rd_T82 l0 0).f0), .int .i64 0]) ?_ 3 _ rfl; (with_reducible repeat (first | refine blk_drewN ?_ _ | refine blk_drew ?_ | refine blk_alloc ?_ _)); refine blk_put (cs := #[.int .i64 ((rd_T82 l0 0).f0), .int .i64 ((rd_T82 l0 0).f1), .int .i64 0, .int .i64 0]) ?_ 2 _ rfl; (with_reducible repeat (first | refine blk_drewN ?_ _ | refine blk_drew ?_ | refine blk_alloc ?_ _)); refine blk_put (cs := #[.int .i64 ((rd_T82 l0 0).f0), .int .i64 0, .int .i64 0, .int .i64 0]) ?_ 1 _ rfl; (with_reducible repeat (first | refine blk_drewN ?_ _ | refine blk_drew ?_ | refine blk_alloc ?_ _)); refine blk_put (cs := #[.int .i64 0, .int .i64 0, .int .i64 0, .int .i64 0]) ?_ 0 _ rfl; (with_reducible repeat (first | refine blk_drewN ?_ _ | refine blk_drew ?_ | refine blk_alloc ?_ _)); exact BK462.out⟩, ⟨bzs⟩⟩
   case round =>
    clear H'; (try clear c1); (try clear c2); (try clear c2b0); (try clear c2b1); (try clear c2b2); (try clear p2); (try clear p4); (try clear q4); (try clear hx4); (try clear qi4); (try clear c5); (try clear c5b0); (try clear c5b1); (try clear hcz4_0); (try clear hcz4_1); (try clear hcz4_2); (try clear hcz4_3); (try clear hfz4_0); (try clear hfz4_1); (try clear hfz4_2); (try clear hfz4_3); (try clear hx460_0); (try clear hx460_1); (try clear hx461_0); (try clear hx461_1); (try clear p460); (try clear p461); (try clear q460); (try clear q461); obtain ⟨x20_1, x460000_1, x460001_1, x460002_1, x460003_1, x463000_1, x463001_1, x463002_1, x463003_1, rfl, HA, HK1, BK459, BK462, HB⟩ := hrel
    cases gk with
    | zero => exact absurd HA.out (by simp [impl_BoxOf.l0])
    | succ k1 =>
     have H := HA.out; clear HA; simp only [impl_BoxOf.l0] at H
     by_cases c13 : x20_1 < (l0.length : Int)
     ·rw [if_pos c13] at H; have c13b0 := decide_eq_true c13; clear c13
      by_cases c14 : 0 ≤ x20_1
      ·rw [if_pos c14] at H; have c14b0 := decide_eq_true c14; clear c14
       by_cases c15 : x20_1 < (l0.length : Int)
       ·rw [if_pos c15] at H; have c15b0 := decide_eq_true c15; clear c15; replace H := Option.bind_eq_some_iff.mp H; obtain ⟨t465, A160, H⟩ := H; have A16 := Aside0.mk A160; clear A160
        by_cases c17 : t465 = true
        ·subst c17; replace H := ift H; obtain ⟨ji18, hji18⟩ : ∃ j_ : Int, (mn x463000_1 ((rd_T82 l0 x20_1).f0)) = j_ := ⟨_, rfl⟩
         replace H : (impl_BoxOf.l0 k1 l0 (l0.length : Int) (wrap64 (x20_1 + 1)) ji18 (mn x463001_1 ((rd_T82 l0 x20_1).f1)) (mx x463002_1 ((rd_T82 l0 x20_1).f0)) (mx x463003_1 ((rd_T82 l0 x20_1).f1))) = some (r1, r2, r3, r4, r5) := by first | (rw [hji18] at H; exact H) | (simp only [hji18] at H ⊢; exact H)
         (try rw [hji18] at A16); have hji18_ : (if ((rd_T82 l0 x20_1).f0) < x463000_1 then ((rd_T82 l0 x20_1).f0) else x463000_1) = ji18 := hji18; obtain ⟨ji19, hji19⟩ : ∃ j_ : Int, (mn x463001_1 ((rd_T82 l0 x20_1).f1)) = j_ := ⟨_, rfl⟩
         replace H : (impl_BoxOf.l0 k1 l0 (l0.length : Int) (wrap64 (x20_1 + 1)) ji18 ji19 (mx x463002_1 ((rd_T82 l0 x20_1).f0)) (mx x463003_1 ((rd_T82 l0 x20_1).f1))) = some (r1, r2, r3, r4, r5) := by first | (rw [hji19] at H; exact H) | (simp only [hji19] at H ⊢; exact H)
         (try rw [hji19] at A16); have hji19_ : (if ((rd_T82 l0 x20_1).f1) < x463001_1 then ((rd_T82 l0 x20_1).f1) else x463001_1) = ji19 := hji19; obtain ⟨ji20, hji20⟩ : ∃ j_ : Int, (mx x463002_1 ((rd_T82 l0 x20_1).f0)) = j_ := ⟨_, rfl⟩
         replace H : (impl_BoxOf.l0 k1 l0 (l0.length : Int) (wrap64 (x20_1 + 1)) ji18 ji19 ji20 (mx x463003_1 ((rd_T82 l0 x20_1).f1))) = some (r1, r2, r3, r4, r5) := by first | (rw [hji20] at H; exact H) | (simp only [hji20] at H ⊢; exact H)
         (try rw [hji20] at A16); have hji20_ : (if x463002_1 < ((rd_T82 l0 x20_1).f0) then ((rd_T82 l0 x20_1).f0) else x463002_1) = ji20 := hji20; obtain ⟨ji21, hji21⟩ : ∃ j_ : Int, (mx x463003_1 ((rd_T82 l0 x20_1).f1)) = j_ := ⟨_, rfl⟩
         replace H : (impl_BoxOf.l0 k1 l0 (l0.length : Int) (wrap64 (x20_1 + 1)) ji18 ji19 ji20 ji21) = some (r1, r2, r3, r4, r5) := by first | (rw [hji21] at H; exact H) | (simp only [hji21] at H ⊢; exact H)
         (try rw [hji21] at A16); have hji21_ : (if x463003_1 < ((rd_T82 l0 x20_1).f1) then ((rd_T82 l0 x20_1).f1) else x463003_1) = ji21 := hji21; have H' := Aside0.mk H; clear H; have p463 : 0 ≤ (x20_1 : Int) := of_decide_eq_true az; have q463 : x20_1 < (l0.length : Int) := of_decide_eq_true az; obtain ⟨ad463, e463, hx463_0, hx463_1⟩ := at_T82 HR0.out x20_1 p463 q463; obtain rfl : ad460 = ad463 := (by injection e463)
         replace hx463_0 := xz HB hx463_0; replace hx463_1 := xz HB hx463_1; replace p463 := eq_true p463; replace q463 := eq_true q463; (try go_wp2_with (first | ((with_reducible refine gt (some 6) rfl ?_); refine bx #[.int .i64 0, .int .i64 0] 82 ?_; intro gb464 hg w22 hbox hb; have BK464 := Aside0.mk (hbox); have GW464 := Aside0.mk (gez HB hg); have GE464 := Aside0.mk (gez HB hg); replace HB := Aside0.mk (below_step bzs hb); have NB459_464 := Aside0.mk ((by rw [hg]; exact Nat.ne_of_lt (blk_lt (g := gb459) (o := .cells #[.int .i64 x460000_1, .int .i64 x460001_1, .int .i64 x460002_1, .int .i64 x460003_1] 98 (0, 0)) (kz BK459)) : gb459 ≠ gb464)); have NB464_459 := Aside0.mk ((by rw [hg]; exact Nat.ne_of_gt (blk_lt (g := gb459) (o := .cells #[.int .i64 x460000_1, .int .i64 x460001_1, .int .i64 x460002_1, .int .i64 x460003_1] 98 (0, 0)) (kz BK459)) : gb464 ≠ gb459)); replace BK459 := Aside0.mk (bbz BK459 hb); have NB462_464 := Aside0.mk ((by rw [hg]; exact Nat.ne_of_lt (blk_lt (g := gb462) (o := .cells #[.int .i64 x463000_1, .int .i64 x463001_1, .int .i64 x463002_1, .int .i64 x463003_1] 98 (0, 0)) (kz BK462)) : gb462 ≠ gb464)); have NB464_462 := Aside0.mk ((by rw [hg]; exact Nat.ne_of_gt (blk_lt (g := gb462) (o := .cells #[.int .i64 x463000_1, .int .i64 x463001_1, .int .i64 x463002_1, .int .i64 x463003_1] 98 (0, 0)) (kz BK462)) : gb464 ≠ gb462)); replace BK462 := Aside0.mk (bbz BK462 hb); clear hb hbox hg; have hnb23 := NB464_459.out; have hnc23 := NB459_464.out; have hnb24 := NB464_462.out; have hnc24 := NB462_464.out; obtain ⟨hcz25_0, hcz25_1, hfz25_0, hfz25_1⟩ := cells2 BK464) | ((with_reducible refine gt (some 25) rfl ?_); refine gc Try.func123 (impl_IsPoint.calls ((rd_T82 l0 x20_1).f0) ((rd_T82 l0 x20_1).f1) true _ A16.out) ?_; rintro e w26 ⟨rfl, hb⟩; refine ⟨_, rfl, ?_⟩; replace BK459 := Aside0.mk (bbz BK459 hb); replace BK462 := Aside0.mk (bbz BK462 hb); replace BK464 := Aside0.mk (blk_below (g := gb464) (o := .cells #[.int .i64 ((rd_T82 l0 x20_1).f0), .int .i64 ((rd_T82 l0 x20_1).f1)] 82 (0, 0)) (by (with_reducible repeat (first | refine blk_drewN ?_ _ | refine blk_drew ?_ | refine blk_alloc ?_ _)); refine blk_put (cs := #[.int .i64 ((rd_T82 l0 x20_1).f0), .int .i64 0]) ?_ 1 _ rfl; (with_reducible repeat (first | refine blk_drewN ?_ _ | refine blk_drew ?_ | refine blk_alloc ?_ _)); refine blk_put (cs := #[.int .i64 0, .int .i64 0]) ?_ 0 _ rfl; (with_reducible repeat (first | refine blk_drewN ?_ _ | refine blk_drew ?_ | refine blk_alloc ?_ _)); exact BK464.out) hb); replace HB := Aside0.mk (below_step bzs hb); (try clear hb))))
         replace BK459 := Aside0.mk (blk_drew BK459.out); replace BK462 := Aside0.mk (blk_drew BK462.out); replace BK464 := Aside0.mk (blk_drew BK464.out); replace HB := Aside0.mk (below_drew1 HB.out); refine start2_ (n := 30) (S := fun w' => w'.cell? ⟨gb464, 0, none⟩ = some (.int .i64 ((rd_T82 l0 x20_1).f0)) ∧ w'.cell? ⟨gb464, 1, none⟩ = some (.int .i64 ((rd_T82 l0 x20_1).f1))) (T := fun w' => w'.cell? ⟨gb462, 0, none⟩ = some (.int .i64 x463000_1) ∧ w'.cell? ⟨gb462, 1, none⟩ = some (.int .i64 x463001_1) ∧ w'.cell? ⟨gb462, 2, none⟩ = some (.int .i64 x463002_1) ∧ w'.cell? ⟨gb462, 3, none⟩ = some (.int .i64 x463003_1)) (ds := [27, 29]) #[F,F,F,F,F,F,F,F,F,F,F,F,F,F,F,F,F,F,F,F,F,F,F,F,F,F,F,F,F,F] (by kernel_rfl) rfl rfl ⟨bc BK464 0, bc BK464 1⟩ ⟨bc BK462 0, bc BK462 1, bc BK462 2, bc BK462 3⟩ (fun hS hHeld => ?_); refine with_tab2 impl_BoxOf.tab9 impl_BoxOf.bits9 (fun HT_ HW_ => ?_); generalize w26.drew = w27 at BK459 BK462 BK464 HB hS hHeld ⊢; refine pure2_ (i := 0) (N := some 28) (v := ?_) (a' := ?_) #[T,F,F,F,F,F,F,F,F,F,F,F,F,F,F,F,F,F,F,F,F,F,F,F,F,F,F,F,F,F] rfl rfl (take_ofW HT_.out HW_.out (by kernel_rfl)) (fun _ _ _ h => h) (Or.inl ⟨by rfl, ?_⟩) ?_ ?_; rotate_left
         ·intro w'; go_simp
          with_reducible rfl
         rotate_left
         ·simp only [Act.put, List.setIfInBounds_toArray, List.set_cons_zero, List.set_cons_succ, i64_w, i32_w]
          rfl
         refine pure2_ (i := 1) (N := some 29) (v := ?_) (a' := ?_) #[T,T,F,F,F,F,F,F,F,F,F,F,F,F,F,F,F,F,F,F,F,F,F,F,F,F,F,F,F,F] rfl rfl (take_ofW HT_.out HW_.out (by kernel_rfl)) (fun _ _ _ h => h) (Or.inl ⟨by rfl, ?_⟩) ?_ ?_; rotate_left
         ·intro w'; go_simp
          with_reducible rfl
         rotate_left
         ·simp only [Act.put, List.setIfInBounds_toArray, List.set_cons_zero, List.set_cons_succ, i64_w, i32_w]
          rfl
         refine pure2_ (i := 3) (N := some 31) (v := ?_) (a' := ?_) #[T,T,F,T,F,F,F,F,F,F,F,F,F,F,F,F,F,F,F,F,F,F,F,F,F,F,F,F,F,F] rfl rfl (take_ofW HT_.out HW_.out (by kernel_rfl)) (fun _ _ _ h => h) (Or.inl ⟨by rfl, ?_⟩) ?_ ?_; rotate_left
         ·intro w'; go_simp
          with_reducible rfl
         rotate_left
         ·simp only [Act.put, List.setIfInBounds_toArray, List.set_cons_zero, List.set_cons_succ, i64_w, i32_w]
          rfl
         refine pure2_ (i := 6) (N := some 34) (v := ?_) (a' := ?_) #[T,T,F,T,F,F,T,F,F,F,F,F,F,F,F,F,F,F,F,F,F,F,F,F,F,F,F,F,F,F] rfl rfl (take_ofW HT_.out HW_.out (by kernel_rfl)) (fun _ _ _ h => h) (Or.inl ⟨by rfl, ?_⟩) ?_ ?_; rotate_left
         ·intro w'; go_simp
          with_reducible rfl
         rotate_left
         ·simp only [Act.put, List.setIfInBounds_toArray, List.set_cons_zero, List.set_cons_succ, i64_w, i32_w]
          rfl
         refine pure2_ (i := 7) (N := some 35) (v := ?_) (a' := ?_) #[T,T,F,T,F,F,T,T,F,F,F,F,F,F,F,F,F,F,F,F,F,F,F,F,F,F,F,F,F,F] rfl rfl (take_ofW HT_.out HW_.out (by kernel_rfl)) (fun _ _ _ h => h) (Or.inl ⟨by rfl, ?_⟩) ?_ ?_; rotate_left
         ·intro w'; go_simp
          with_reducible rfl
         rotate_left
         ·simp only [Act.put, List.setIfInBounds_toArray, List.set_cons_zero, List.set_cons_succ, i64_w, i32_w]
          rfl
         refine pure2_ (i := 9) (N := some 37) (v := ?_) (a' := ?_) #[T,T,F,T,F,F,T,T,F,T,F,F,F,F,F,F,F,F,F,F,F,F,F,F,F,F,F,F,F,F] rfl rfl (take_ofW HT_.out HW_.out (by kernel_rfl)) (fun _ _ _ h => h) (Or.inl ⟨by rfl, ?_⟩) ?_ ?_; rotate_left
         ·intro w'; go_simp
          with_reducible rfl
         rotate_left
         ·simp only [Act.put, List.setIfInBounds_toArray, List.set_cons_zero, List.set_cons_succ, i64_w, i32_w]
          rfl
         refine pure2_ (i := 13) (N := some 41) (v := ?_) (a' := ?_) #[T,T,F,T,F,F,T,T,F,T,F,F,F,T,F,F,F,F,F,F,F,F,F,F,F,F,F,F,F,F] rfl rfl (take_ofW HT_.out HW_.out (by kernel_rfl)) (fun _ _ _ h => h) (Or.inl ⟨by rfl, ?_⟩) ?_ ?_; rotate_left
         ·intro w'; go_simp
          with_reducible rfl
         rotate_left
         ·simp only [Act.put, List.setIfInBounds_toArray, List.set_cons_zero, List.set_cons_succ, i64_w, i32_w]
          rfl
         refine pure2_ (i := 14) (N := some 42) (v := ?_) (a' := ?_) #[T,T,F,T,F,F,T,T,F,T,F,F,F,T,T,F,F,F,F,F,F,F,F,F,F,F,F,F,F,F] rfl rfl (take_ofW HT_.out HW_.out (by kernel_rfl)) (fun _ _ _ h => h) (Or.inl ⟨by rfl, ?_⟩) ?_ ?_; rotate_left
         ·intro w'; go_simp
          with_reducible rfl
         rotate_left
         ·simp only [Act.put, List.setIfInBounds_toArray, List.set_cons_zero, List.set_cons_succ, i64_w, i32_w]
          rfl
         refine pure2_ (i := 16) (N := some 44) (v := ?_) (a' := ?_) #[T,T,F,T,F,F,T,T,F,T,F,F,F,T,T,F,T,F,F,F,F,F,F,F,F,F,F,F,F,F] rfl rfl (take_ofW HT_.out HW_.out (by kernel_rfl)) (fun _ _ _ h => h) (Or.inl ⟨by rfl, ?_⟩) ?_ ?_; rotate_left
         ·intro w'; go_simp
          with_reducible rfl
         rotate_left
         ·simp only [Act.put, List.setIfInBounds_toArray, List.set_cons_zero, List.set_cons_succ, i64_w, i32_w]
          rfl
         refine pure2_ (i := 19) (N := some 47) (v := ?_) (a' := ?_) #[T,T,F,T,F,F,T,T,F,T,F,F,F,T,T,F,T,F,F,T,F,F,F,F,F,F,F,F,F,F] rfl rfl (take_ofW HT_.out HW_.out (by kernel_rfl)) (fun _ _ _ h => h) (Or.inl ⟨by rfl, ?_⟩) ?_ ?_; rotate_left
         ·intro w'; go_simp
          with_reducible rfl
         rotate_left
         ·simp only [Act.put, List.setIfInBounds_toArray, List.set_cons_zero, List.set_cons_succ, i64_w, i32_w]
          rfl
         refine pure2_ (i := 20) (N := some 48) (v := ?_) (a' := ?_) #[T,T,F,T,F,F,T,T,F,T,F,F,F,T,T,F,T,F,F,T,T,F,F,F,F,F,F,F,F,F] rfl rfl (take_ofW HT_.out HW_.out (by kernel_rfl)) (fun _ _ _ h => h) (Or.inl ⟨by rfl, ?_⟩) ?_ ?_; rotate_left
         ·intro w'; go_simp
          with_reducible rfl
         rotate_left
         ·simp only [Act.put, List.setIfInBounds_toArray, List.set_cons_zero, List.set_cons_succ, i64_w, i32_w]
          rfl
         refine pure2_ (i := 22) (N := some 50) (v := ?_) (a' := ?_) #[T,T,F,T,F,F,T,T,F,T,F,F,F,T,T,F,T,F,F,T,T,F,T,F,F,F,F,F,F,F] rfl rfl (take_ofW HT_.out HW_.out (by kernel_rfl)) (fun _ _ _ h => h) (Or.inl ⟨by rfl, ?_⟩) ?_ ?_; rotate_left
         ·intro w'; go_simp
          with_reducible rfl
         rotate_left
         ·simp only [Act.put, List.setIfInBounds_toArray, List.set_cons_zero, List.set_cons_succ, i64_w, i32_w]
          rfl
         refine takeT_ (i := 2) (N := some 30) (v := ?_) (a' := ?_) #[T,T,T,T,F,F,T,T,F,T,F,F,F,T,T,F,T,F,F,T,T,F,T,F,F,F,F,F,F,F] rfl rfl (take_ofW HT_.out HW_.out (by kernel_rfl)) (fun _ _ _ h => h) (Or.inl ⟨by rfl, ?_⟩) hHeld ?_ ?_; rotate_left
         ·rintro w' ⟨s0, s1, s2, s3⟩; go_simp
          with_reducible rfl
         rotate_left
         ·simp only [Act.put, List.setIfInBounds_toArray, List.set_cons_zero, List.set_cons_succ, i64_w, i32_w]
          rfl
         refine takeS_ (i := 4) (N := some 32) (v := ?_) (a' := ?_) #[T,T,T,T,T,F,T,T,F,T,F,F,F,T,T,F,T,F,F,T,T,F,T,F,F,F,F,F,F,F] rfl rfl (take_ofW HT_.out HW_.out (by kernel_rfl)) (fun _ _ _ h => h) (Or.inl ⟨by rfl, ?_⟩) hS ?_ ?_; rotate_left
         ·rintro w' ⟨s4, s5⟩; go_simp
          with_reducible rfl
         rotate_left
         ·simp only [Act.put, List.setIfInBounds_toArray, List.set_cons_zero, List.set_cons_succ, i64_w, i32_w]
          rfl
         refine pure2_ (i := 5) (N := some 33) (v := ?_) (a' := ?_) #[T,T,T,T,T,T,T,T,F,T,F,F,F,T,T,F,T,F,F,T,T,F,T,F,F,F,F,F,F,F] rfl rfl (take_ofW HT_.out HW_.out (by kernel_rfl)) (fun _ _ _ h => h) (Or.inl ⟨by rfl, ?_⟩) ?_ ?_; rotate_left
         ·intro w'; go_simp
          with_reducible rfl
         rotate_left
         ·simp only [Act.put, List.setIfInBounds_toArray, List.set_cons_zero, List.set_cons_succ, i64_w, i32_w]
          rfl
         refine takeT_ (i := 8) (N := some 36) (v := ?_) (a' := ?_) #[T,T,T,T,T,T,T,T,T,T,F,F,F,T,T,F,T,F,F,T,T,F,T,F,F,F,F,F,F,F] rfl rfl (take_ofW HT_.out HW_.out (by kernel_rfl)) (fun _ _ _ h => h) (Or.inl ⟨by rfl, ?_⟩) hHeld ?_ ?_; rotate_left
         ·rintro w' ⟨s0, s1, s2, s3⟩; go_simp
          with_reducible rfl
         rotate_left
         ·simp only [Act.put, List.setIfInBounds_toArray, List.set_cons_zero, List.set_cons_succ, i64_w, i32_w]
          rfl
         refine takeS_ (i := 10) (N := some 38) (v := ?_) (a' := ?_) #[T,T,T,T,T,T,T,T,T,T,T,F,F,T,T,F,T,F,F,T,T,F,T,F,F,F,F,F,F,F] rfl rfl (take_ofW HT_.out HW_.out (by kernel_rfl)) (fun _ _ _ h => h) (Or.inl ⟨by rfl, ?_⟩) hS ?_ ?_; rotate_left
         ·rintro w' ⟨s4, s5⟩; go_simp
          with_reducible rfl
         rotate_left
         ·simp only [Act.put, List.setIfInBounds_toArray, List.set_cons_zero, List.set_cons_succ, i64_w, i32_w]
          rfl
         refine pure2_ (i := 11) (N := some 39) (v := ?_) (a' := ?_) #[T,T,T,T,T,T,T,T,T,T,T,T,F,T,T,F,T,F,F,T,T,F,T,F,F,F,F,F,F,F] rfl rfl (take_ofW HT_.out HW_.out (by kernel_rfl)) (fun _ _ _ h => h) (Or.inl ⟨by rfl, ?_⟩) ?_ ?_; rotate_left
         ·intro w'; go_simp
          with_reducible rfl
         rotate_left
         ·simp only [Act.put, List.setIfInBounds_toArray, List.set_cons_zero, List.set_cons_succ, i64_w, i32_w]
          rfl
         refine pure2_ (i := 12) (N := some 40) (v := ?_) (a' := ?_) #[T,T,T,T,T,T,T,T,T,T,T,T,T,T,T,F,T,F,F,T,T,F,T,F,F,F,F,F,F,F] rfl rfl (take_ofW HT_.out HW_.out (by kernel_rfl)) (fun _ _ _ h => h) (Or.inl ⟨by rfl, ?_⟩) ?_ ?_; rotate_left
         ·intro w'; go_simp
          with_reducible rfl
         rotate_left
         ·simp only [Act.put, List.setIfInBounds_toArray, List.set_cons_zero, List.set_cons_succ, i64_w, i32_w]
          rfl
         refine takeT_ (i := 15) (N := some 43) (v := ?_) (a' := ?_) #[T,T,T,T,T,T,T,T,T,T,T,T,T,T,T,T,T,F,F,T,T,F,T,F,F,F,F,F,F,F] rfl rfl (take_ofW HT_.out HW_.out (by kernel_rfl)) (fun _ _ _ h => h) (Or.inl ⟨by rfl, ?_⟩) hHeld ?_ ?_; rotate_left
         ·rintro w' ⟨s0, s1, s2, s3⟩; go_simp
          with_reducible rfl
         rotate_left
         ·simp only [Act.put, List.setIfInBounds_toArray, List.set_cons_zero, List.set_cons_succ, i64_w, i32_w]
          rfl
         refine takeS_ (i := 17) (N := some 45) (v := ?_) (a' := ?_) #[T,T,T,T,T,T,T,T,T,T,T,T,T,T,T,T,T,T,F,T,T,F,T,F,F,F,F,F,F,F] rfl rfl (take_ofW HT_.out HW_.out (by kernel_rfl)) (fun _ _ _ h => h) (Or.inl ⟨by rfl, ?_⟩) hS ?_ ?_; rotate_left
         ·rintro w' ⟨s4, s5⟩; go_simp
          with_reducible rfl
         rotate_left
         ·simp only [Act.put, List.setIfInBounds_toArray, List.set_cons_zero, List.set_cons_succ, i64_w, i32_w]
          rfl
         refine pure2_ (i := 18) (N := some 46) (v := ?_) (a' := ?_) #[T,T,T,T,T,T,T,T,T,T,T,T,T,T,T,T,T,T,T,T,T,F,T,F,F,F,F,F,F,F] rfl rfl (take_ofW HT_.out HW_.out (by kernel_rfl)) (fun _ _ _ h => h) (Or.inl ⟨by rfl, ?_⟩) ?_ ?_; rotate_left
         ·intro w'; go_simp
          with_reducible rfl
         rotate_left
         ·simp only [Act.put, List.setIfInBounds_toArray, List.set_cons_zero, List.set_cons_succ, i64_w, i32_w]
          rfl
         refine takeT_ (i := 21) (N := some 49) (v := ?_) (a' := ?_) #[T,T,T,T,T,T,T,T,T,T,T,T,T,T,T,T,T,T,T,T,T,T,T,F,F,F,F,F,F,F] rfl rfl (take_ofW HT_.out HW_.out (by kernel_rfl)) (fun _ _ _ h => h) (Or.inl ⟨by rfl, ?_⟩) hHeld ?_ ?_; rotate_left
         ·rintro w' ⟨s0, s1, s2, s3⟩; go_simp
          with_reducible rfl
         rotate_left
         ·simp only [Act.put, List.setIfInBounds_toArray, List.set_cons_zero, List.set_cons_succ, i64_w, i32_w]
          rfl
         refine takeS_ (i := 23) (N := some 51) (v := ?_) (a' := ?_) #[T,T,T,T,T,T,T,T,T,T,T,T,T,T,T,T,T,T,T,T,T,T,T,T,F,F,F,F,F,F] rfl rfl (take_ofW HT_.out HW_.out (by kernel_rfl)) (fun _ _ _ h => h) (Or.inl ⟨by rfl, ?_⟩) hS ?_ ?_; rotate_left
         ·rintro w' ⟨s4, s5⟩; go_simp
          with_reducible rfl
         rotate_left
         ·simp only [Act.put, List.setIfInBounds_toArray, List.set_cons_zero, List.set_cons_succ, i64_w, i32_w]
          rfl
         refine pure2_ (i := 24) (N := some 52) (v := ?_) (a' := ?_) #[T,T,T,T,T,T,T,T,T,T,T,T,T,T,T,T,T,T,T,T,T,T,T,T,T,F,F,F,F,F] rfl rfl (take_ofW HT_.out HW_.out (by kernel_rfl)) (fun _ _ _ h => h) (Or.inl ⟨by rfl, ?_⟩) ?_ ?_; rotate_left
         ·intro w'; go_simp
          with_reducible rfl
         rotate_left
         ·simp only [Act.put, List.setIfInBounds_toArray, List.set_cons_zero, List.set_cons_succ, i64_w, i32_w]
          rfl
         refine pure2_ (i := 25) (N := some 53) (v := ?_) (a' := ?_) #[T,T,T,T,T,T,T,T,T,T,T,T,T,T,T,T,T,T,T,T,T,T,T,T,T,T,F,F,F,F] rfl rfl (take_ofW HT_.out HW_.out (by kernel_rfl)) (fun _ _ _ h => h) (Or.inl ⟨by rfl, ?_⟩) ?_ ?_; rotate_left
         ·intro w'; go_simp
          with_reducible rfl
         rotate_left
         ·simp only [Act.put, List.setIfInBounds_toArray, List.set_cons_zero, List.set_cons_succ, i64_w, i32_w]
          rfl
         refine pure2_ (i := 26) (N := some 54) (v := ?_) (a' := ?_) #[T,T,T,T,T,T,T,T,T,T,T,T,T,T,T,T,T,T,T,T,T,T,T,T,T,T,T,F,F,F] rfl rfl (take_ofW HT_.out HW_.out (by kernel_rfl)) (fun _ _ _ h => h) (Or.inl ⟨by rfl, ?_⟩) ?_ ?_; rotate_left
         ·intro w'; go_simp
          with_reducible rfl
         rotate_left
         ·simp only [Act.put, List.setIfInBounds_toArray, List.set_cons_zero, List.set_cons_succ, i64_w, i32_w]
          rfl
         refine last2_ (i := 27) (N := none) #[T,T,T,T,T,T,T,T,T,T,T,T,T,T,T,T,T,T,T,T,T,T,T,T,T,T,T,T,F,F] rfl rfl (one_of HT_.out (by kernel_rfl)) (by decide) (fun K hK => ?_); have hs28 : w27.cell? ⟨gb462, 0, none⟩ = some (.int .i64 x463000_1) := bc BK462 0; have hfs28 := blk_frozen BK462.out 0; have hns28_0 := NB459_462.out; have hns28_2 := NB464_462.out; have hms28_0 := NB462_459.out; have hms28_2 := NB462_464.out; have hs29 : w27.cell? ⟨gb462, 1, none⟩ = some (.int .i64 x463001_1) := bc BK462 1; have hfs29 := blk_frozen BK462.out 1; have hns29_0 := NB459_462.out; have hns29_2 := NB464_462.out; have hms29_0 := NB462_459.out; have hms29_2 := NB462_464.out; refine skip_ (w1 := ?_) (by rfl) rfl ?_ ?_; rotate_left
         ·go_simp
          rfl
         refine hK.out _ _ (fun _ => ⟨(blk_cell (by (with_reducible repeat (first | refine blk_far ?_ NB464_462.out _)); exact BK464.out) 0).trans rfl, (blk_cell (by (with_reducible repeat (first | refine blk_far ?_ NB464_462.out _)); exact BK464.out) 1).trans rfl⟩) ?_; clear hK K; refine pure2_ (i := 28) (N := some 55) (v := ?_) (a' := ?_) #[T,T,T,T,T,T,T,T,T,T,T,T,T,T,T,T,T,T,T,T,T,T,T,T,T,T,T,T,T,F] rfl rfl (take_ofW HT_.out HW_.out (by kernel_rfl)) (fun _ _ _ h => h) (Or.inl ⟨by rfl, ?_⟩) ?_ ?_; rotate_left
         ·intro w'; go_simp
          with_reducible rfl
         rotate_left
         ·simp only [Act.put, List.setIfInBounds_toArray, List.set_cons_zero, List.set_cons_succ, i64_w, i32_w]
          rfl
         refine last2_ (i := 29) (N := none) #[T,T,T,T,T,T,T,T,T,T,T,T,T,T,T,T,T,T,T,T,T,T,T,T,T,T,T,T,T,T] rfl rfl (one_of HT_.out (by kernel_rfl)) (by decide) (fun K hK => ?_); have hs30 : w27.cell? ⟨gb462, 2, none⟩ = some (.int .i64 x463002_1) := bc BK462 2; have hfs30 := blk_frozen BK462.out 2; have hns30_0 := NB459_462.out; have hns30_2 := NB464_462.out; have hms30_0 := NB462_459.out; have hms30_2 := NB462_464.out; have hs31 : w27.cell? ⟨gb462, 3, none⟩ = some (.int .i64 x463003_1) := bc BK462 3; have hfs31 := blk_frozen BK462.out 3; have hns31_0 := NB459_462.out; have hns31_2 := NB464_462.out; have hms31_0 := NB462_459.out; have hms31_2 := NB462_464.out; refine skip_ (w1 := ?_) (by rfl) rfl ?_ ?_; rotate_left
         ·go_simp
          rfl
         refine hK.out _ _ (fun _ => ⟨(blk_cell (by (with_reducible repeat (first | refine blk_far ?_ NB464_462.out _)); exact BK464.out) 0).trans rfl, (blk_cell (by (with_reducible repeat (first | refine blk_far ?_ NB464_462.out _)); exact BK464.out) 1).trans rfl⟩) ?_; clear hK K; refine done2_ (done_of HT_.out (by kernel_rfl)) ?_; (try go_wp2)
         go_roundg k1
         case measure => have := HK1.out; omega
         case rel => exact ⟨(wrap64 (x20_1 + 1)), (x460000_1), (x460001_1), (x460002_1), (x460003_1), (ji18), (ji19), (ji20), (ji21), rz, H', ⟨by have := HK1.out; omega⟩, ⟨kz BK459⟩, ⟨by (with_reducible repeat (first | refine blk_drewN ?_ _ | refine blk_drew ?_ | refine blk_alloc ?_ _)); refine blk_put (cs := #[.int .i64 ji18, .int .i64 ji19, .int .i64 ji20, .int .i64 x463003_1]) ?_ 3 _ rfl; (with_reducible repeat (first | refine blk_drewN ?_ _ | refine blk_drew ?_ | refine blk_alloc ?_ _)); refine blk_put (cs := #[.int .i64 ji18, .int .i64 ji19, .int .i64 x463002_1, .int .i64 x463003_1]) ?_ 2 _ rfl; (with_reducible repeat (first | refine blk_drewN ?_ _ | refine blk_drew ?_ | refine blk_alloc ?_ _)); refine blk_put (cs := #[.int .i64 ji18, .int .i64 x463001_1, .int .i64 x463002_1, .int .i64 x463003_1]) ?_ 1 _ rfl; (with_reducible repeat (first | refine blk_drewN ?_ _ | refine blk_drew ?_ | refine blk_alloc ?_ _)); refine blk_put (cs := #[.int .i64 x463000_1, .int .i64 x463001_1, .int .i64 x463002_1, .int .i64 x463003_1]) ?_ 0 _ rfl; (with_reducible repeat (first | refine blk_drewN ?_ _ | refine blk_drew ?_ | refine blk_alloc ?_ _)); exact BK462.out⟩, ⟨bzs⟩⟩
        ·replace c17 := Bool.eq_false_iff.mpr c17; subst c17; replace H := iff_ H; simp only [Option.some.injEq, Prod.mk.injEq] at H; obtain ⟨rfl, rfl, rfl, rfl, rfl⟩ := H; have p463 : 0 ≤ (x20_1 : Int) := of_decide_eq_true az; have q463 : x20_1 < (l0.length : Int) := of_decide_eq_true az; obtain ⟨ad463, e463, hx463_0, hx463_1⟩ := at_T82 HR0.out x20_1 p463 q463; obtain rfl : ad460 = ad463 := (by injection e463)
         replace hx463_0 := xz HB hx463_0; replace hx463_1 := xz HB hx463_1; replace p463 := eq_true p463; replace q463 := eq_true q463; go_wp2_with (first | ((with_reducible refine gt (some 6) rfl ?_); refine bx #[.int .i64 0, .int .i64 0] 82 ?_; intro gb464 hg w32 hbox hb; have BK464 := Aside0.mk (hbox); have GW464 := Aside0.mk (gez HB hg); have GE464 := Aside0.mk (gez HB hg); replace HB := Aside0.mk (below_step bzs hb); have NB459_464 := Aside0.mk ((by rw [hg]; exact Nat.ne_of_lt (blk_lt (g := gb459) (o := .cells #[.int .i64 x460000_1, .int .i64 x460001_1, .int .i64 x460002_1, .int .i64 x460003_1] 98 (0, 0)) (kz BK459)) : gb459 ≠ gb464)); have NB464_459 := Aside0.mk ((by rw [hg]; exact Nat.ne_of_gt (blk_lt (g := gb459) (o := .cells #[.int .i64 x460000_1, .int .i64 x460001_1, .int .i64 x460002_1, .int .i64 x460003_1] 98 (0, 0)) (kz BK459)) : gb464 ≠ gb459)); replace BK459 := Aside0.mk (bbz BK459 hb); have NB462_464 := Aside0.mk ((by rw [hg]; exact Nat.ne_of_lt (blk_lt (g := gb462) (o := .cells #[.int .i64 x463000_1, .int .i64 x463001_1, .int .i64 x463002_1, .int .i64 x463003_1] 98 (0, 0)) (kz BK462)) : gb462 ≠ gb464)); have NB464_462 := Aside0.mk ((by rw [hg]; exact Nat.ne_of_gt (blk_lt (g := gb462) (o := .cells #[.int .i64 x463000_1, .int .i64 x463001_1, .int .i64 x463002_1, .int .i64 x463003_1] 98 (0, 0)) (kz BK462)) : gb464 ≠ gb462)); replace BK462 := Aside0.mk (bbz BK462 hb); clear hb hbox hg; have hnb33 := NB464_459.out; have hnc33 := NB459_464.out; have hnb34 := NB464_462.out; have hnc34 := NB462_464.out; obtain ⟨hcz35_0, hcz35_1, hfz35_0, hfz35_1⟩ := cells2 BK464) | ((with_reducible refine gt (some 25) rfl ?_); refine gc Try.func123 (impl_IsPoint.calls ((rd_T82 l0 x20_1).f0) ((rd_T82 l0 x20_1).f1) false _ A16.out) ?_; rintro e w36 ⟨rfl, hb⟩; refine ⟨_, rfl, ?_⟩; replace BK459 := Aside0.mk (bbz BK459 hb); replace BK462 := Aside0.mk (bbz BK462 hb); replace BK464 := Aside0.mk (blk_below (g := gb464) (o := .cells #[.int .i64 ((rd_T82 l0 x20_1).f0), .int .i64 ((rd_T82 l0 x20_1).f1)] 82 (0, 0)) (by (with_reducible repeat (first | refine blk_drewN ?_ _ | refine blk_drew ?_ | refine blk_alloc ?_ _)); refine blk_put (cs := #[.int .i64 ((rd_T82 l0 x20_1).f0), .int .i64 0]) ?_ 1 _ rfl; (with_reducible repeat (first | refine blk_drewN ?_ _ | refine blk_drew ?_ | refine blk_alloc ?_ _)); refine blk_put (cs := #[.int .i64 0, .int .i64 0]) ?_ 0 _ rfl; (with_reducible repeat (first | refine blk_drewN ?_ _ | refine blk_drew ?_ | refine blk_alloc ?_ _)); exact BK464.out) hb); replace HB := Aside0.mk (below_step bzs hb); (try clear hb); have hnb37 := NB459_462.out; have hnc37 := NB462_459.out; obtain ⟨hcz38_0, hcz38_1, hcz38_2, hcz38_3, hfz38_0, hfz38_1, hfz38_2, hfz38_3⟩ := cells4 BK459))
         refine bodyPost_ret (results_ct rfl _ _ gb459 98 #[.int .i64 0, .int .i64 0, .int .i64 0, .int .i64 0] (0, 0) _ rfl (by (with_reducible repeat (first | refine blk_drewN ?_ _ | refine blk_drew ?_ | refine blk_alloc ?_ _)); refine blk_put (cs := #[.int .i64 0, .int .i64 0, .int .i64 0, .int .i64 x460003_1]) ?_ 3 _ rfl; (with_reducible repeat (first | refine blk_drewN ?_ _ | refine blk_drew ?_ | refine blk_alloc ?_ _)); refine blk_put (cs := #[.int .i64 0, .int .i64 0, .int .i64 x460002_1, .int .i64 x460003_1]) ?_ 2 _ rfl; (with_reducible repeat (first | refine blk_drewN ?_ _ | refine blk_drew ?_ | refine blk_alloc ?_ _)); refine blk_put (cs := #[.int .i64 0, .int .i64 x460001_1, .int .i64 x460002_1, .int .i64 x460003_1]) ?_ 1 _ rfl; (with_reducible repeat (first | refine blk_drewN ?_ _ | refine blk_drew ?_ | refine blk_alloc ?_ _)); refine blk_put (cs := #[.int .i64 x460000_1, .int .i64 x460001_1, .int .i64 x460002_1, .int .i64 x460003_1]) ?_ 0 _ rfl; (with_reducible repeat (first | refine blk_drewN ?_ _ | refine blk_drew ?_ | refine blk_alloc ?_ _)); exact BK459.out) Try.underlying98 rfl (by kernel_rfl)) rfl ?_
         exact ⟨ez, bzs⟩
       ·rw [if_neg c15] at H
        exact absurd H (by simp)
      ·rw [if_neg c14] at H
       exact absurd H (by simp)
     ·rw [if_neg c13] at H; have c13b0 := decide_eq_false c13; clear c13; simp only [Option.some.injEq, Prod.mk.injEq] at H; obtain ⟨rfl, rfl, rfl, rfl, rfl⟩ := H; have hnb39 := NB462_459.out; have hnc39 := NB459_462.out; obtain ⟨hcz40_0, hcz40_1, hcz40_2, hcz40_3, hfz40_0, hfz40_1, hfz40_2, hfz40_3⟩ := cells4 BK462; obtain ⟨hcz41_0, hcz41_1, hcz41_2, hcz41_3, hfz41_0, hfz41_1, hfz41_2, hfz41_3⟩ := cells4 BK459; go_wp2; refine bodyPost_ret (results_ct rfl _ _ gb459 98 #[.int .i64 x463000_1, .int .i64 x463001_1, .int .i64 x463002_1, .int .i64 x463003_1] (0, 0) _ rfl (by (with_reducible repeat (first | refine blk_drewN ?_ _ | refine blk_drew ?_ | refine blk_alloc ?_ _)); refine blk_put (cs := #[.int .i64 x463000_1, .int .i64 x463001_1, .int .i64 x463002_1, .int .i64 x460003_1]) ?_ 3 _ rfl; (with_reducible repeat (first | refine blk_drewN ?_ _ | refine blk_drew ?_ | refine blk_alloc ?_ _)); refine blk_put (cs := #[.int .i64 x463000_1, .int .i64 x463001_1, .int .i64 x460002_1, .int .i64 x460003_1]) ?_ 2 _ rfl; (with_reducible repeat (first | refine blk_drewN ?_ _ | refine blk_drew ?_ | refine blk_alloc ?_ _)); refine blk_put (cs := #[.int .i64 x463000_1, .int .i64 x460001_1, .int .i64 x460002_1, .int .i64 x460003_1]) ?_ 1 _ rfl; (with_reducible repeat (first | refine blk_drewN ?_ _ | refine blk_drew ?_ | refine blk_alloc ?_ _)); refine blk_put (cs := #[.int .i64 x460000_1, .int .i64 x460001_1, .int .i64 x460002_1, .int .i64 x460003_1]) ?_ 0 _ rfl; (with_reducible repeat (first | refine blk_drewN ?_ _ | refine blk_drew ?_ | refine blk_alloc ?_ _)); exact BK459.out) Try.underlying98 rfl (by kernel_rfl)) rfl ?_
      exact ⟨ez, bzs⟩
  ·rw [if_neg c5] at H
   exact absurd H (by simp)
end
end Go.Proofs.Ytdfehjfmihokpaa.PFnExactPiecesIn
