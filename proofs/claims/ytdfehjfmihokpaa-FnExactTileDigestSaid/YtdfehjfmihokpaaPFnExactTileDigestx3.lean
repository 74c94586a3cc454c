-- Written by a program of this session's (evlaw.py).
import Derived.Test.YtdfehjfmihokpaaPFnExactTileDigestx2
namespace Go.Proofs.Ytdfehjfmihokpaa.PFnExactTileDigest
open Go.RowKit Go.Proofs.YtdfehjfmihokpaaW.PrintWords Go.Proofs.YtdfehjfmihokpaaW.PrintLast Go.Proofs.YtdfehjfmihokpaaW.PrintMore Go.Proofs.YtdfehjfmihokpaaGeo Go.Proofs.YtdfehjfmihokpaaHand Go.Proofs.YtdfehjfmihokpaaMeet Go.Proofs.YtdfehjfmihokpaaQuiet Go.Proofs.YtdfehjfmihokpaaZ Go.Proofs.YtdfehjfmihokpaaTwo
open Go Go.Proofs.YtdfehjfmihokpaaEv
attribute [local go_sem] max2_int min2_int max_two min_two max_three min_three max_four min_four   -- for this text's walks alone
set_option linter.unusedVariables false
set_option linter.unusedSimpArgs false



set_option linter.unusedSimpArgs false

attribute [local go_sem high] eqA82
set_option linter.unusedVariables false
set_option linter.unusedSimpArgs false
set_option maxRecDepth 100000
noncomputable section
theorem spec_PieceDigest.e5 (k : Nat) (x1 : Int) (x6 : Int) (b0_0 : Int) (b0_1 : Int) (b0_2 : Int) (b0_3 : ByteArray) (x5 : List Int) (b2 : List S82) : spec_PieceDigest.p5 (k + 1) x1 x6 b0_0 b0_1 b0_2 b0_3 x5 b2 = if x6 < (b0_3.size : Int) then (if 0 ≤ x6 then (if x6 < (b0_3.size : Int) then (if (x5.length + 1) * 8 ≤ 140737488355328 then (spec_PieceDigest.p5 k x1 (wrap64 (x6 + 1)) b0_0 b0_1 b0_2 b0_3 (x5 ++ [wrap64 ((bt b0_3 x6))]) b2) else none) else none) else none) else (if (x5.length + 1) * 8 ≤ 140737488355328 then (spec_PartsOf.ap k (⟨b0_0, b0_1, b0_2, b0_3, b2⟩ : S29) fun r1 => if b0_1 = 1 then (if x1 = 0 then (if 0 < (b2.length : Int) then (if 0 < (b2.length : Int) then (if ((x5 ++ [x1]).length + 2) * 8 ≤ 140737488355328 then (spec_Hash.ap k ((x5 ++ [x1]) ++ [(rd_T82 b2 0).f0, (rd_T82 b2 0).f1]) fun r2 => spec_PieceDigest.ret r2) else none) else none) else none) else (spec_l1In.ap k x1 0 (wrap64 ((r1.length : Int) - 1)) fun r3 => if r3 = true then (if 0 ≤ x1 then (if x1 < (r1.length : Int) then (if 0 ≤ x1 then (if x1 < (r1.length : Int) then (if 0 ≤ x1 then (if x1 < (r1.length : Int) then (if 0 ≤ x1 then (if x1 < (r1.length : Int) then (if ((x5 ++ [x1]).length + 4) * 8 ≤ 140737488355328 then (spec_Hash.ap k ((x5 ++ [x1]) ++ [(rd_T85 r1 x1).f0.f0, (rd_T85 r1 x1).f0.f1, (rd_T85 r1 x1).f1.f0, (rd_T85 r1 x1).f1.f1]) fun r4 => spec_PieceDigest.ret r4) else none) else none) else none) else none) else none) else none) else none) else none) else none) else (spec_PieceDigest.ret 0))) else (spec_l1In.ap k x1 0 (wrap64 ((r1.length : Int) - 1)) fun r5 => if r5 = true then (if 0 ≤ x1 then (if x1 < (r1.length : Int) then (if 0 ≤ x1 then (if x1 < (r1.length : Int) then (if 0 ≤ x1 then (if x1 < (r1.length : Int) then (if 0 ≤ x1 then (if x1 < (r1.length : Int) then (if ((x5 ++ [x1]).length + 4) * 8 ≤ 140737488355328 then (spec_Hash.ap k ((x5 ++ [x1]) ++ [(rd_T85 r1 x1).f0.f0, (rd_T85 r1 x1).f0.f1, (rd_T85 r1 x1).f1.f0, (rd_T85 r1 x1).f1.f1]) fun r6 => spec_PieceDigest.ret r6) else none) else none) else none) else none) else none) else none) else none) else none) else none) else (spec_PieceDigest.ret 0))) else none) := by kernel_rfl
def spec_PieceDigest.run (k : Nat) (h : HL eΓ [.st .s29, .i .i64]) : Option (HL eΓ [.i .i64]) := evF env spec_PieceDigest.Fs Try.f20 spec_PieceDigest.cut [.st .s29, .i .i64] [.i .i64] k h
theorem spec_PieceDigest.ef (k : Nat) (h0 : S29) (h1 : Int) : spec_PieceDigest.run k (h0, h1, ()) = spec_IsFeature.ap k (⟨h0.f0, h0.f1, h0.f2, h0.f3, h0.f4⟩ : S29) fun r1 => if (!r1) = true then (spec_PieceDigest.ret 0) else (spec_PieceDigest.p5 k h1 0 h0.f0 h0.f1 h0.f2 h0.f3 ([h0.f0, h0.f1, h0.f2, (h0.f3.size : Int)] : List Int) h0.f4) := by kernel_rfl
def spec_PieceDigest.toH (t : Int) : HL eΓ [.i .i64] := (t, ())
def spec_PieceDigest.spec : Spc env := ⟨20, [.st .s29, .i .i64], [.i .i64], spec_PieceDigest.run⟩
def spec_PieceDigest.ap {R : Type} (k : Nat) (h0 : S29) (h1 : Int) (K : Int → Option R) : Option R := (spec_PieceDigest.run k (h0, h1, ())).bind fun r => K (r.1 : Int)
theorem spec_PieceDigest.ap_of {R : Type} {k : Nat} {h0 : S29} {h1 : Int} {r0 : Int} {K : Int → Option R} (h : spec_PieceDigest.run k (h0, h1, ()) = some (r0, ())) : spec_PieceDigest.ap k h0 h1 K = K r0 := by unfold spec_PieceDigest.ap; rw [h]; rfl
theorem spec_PieceDigest.snd : Snd env spec_PieceDigest.spec := evF_snd env_ok (sndC spec_IsFeature.snd (sndC spec_PartsOf.snd (sndC spec_Hash.snd (sndC spec_l1In.snd (sndN))))) (by kernel_rfl) (by kernel_rfl) (by kernel_rfl)
attribute [local irreducible] spec_PieceDigest.run
theorem spec_PieceDigest.rt (a0 : Int) : spec_PieceDigest.ret a0 = some (spec_PieceDigest.toH (a0)) := rfl
theorem spec_PieceDigest.br (n : Nat) : (∀ K, n ≤ K → ∀ (x1 : Int) (x6 : Int) (b0_0 : Int) (b0_1 : Int) (b0_2 : Int) (b0_3 : ByteArray) (x5 : List Int) (b2 : List S82) t, spec_PieceDigest.l0 n x1 x5 x6 b0_0 b0_1 b0_2 b0_3 b2 = some t → spec_PieceDigest.p5 K x1 x6 b0_0 b0_1 b0_2 b0_3 x5 b2 = some (spec_PieceDigest.toH t)) := by
  induction n using Nat.strongRecOn with
  | _ n ih =>
  intro K hK x1 x6 b0_0 b0_1 b0_2 b0_3 x5 b2 t h
  all_goals (rcases n with _ | k)
  all_goals (try (exact nos h))
  all_goals (obtain ⟨K, rfl⟩ : ∃ q, K = q + 1 := ⟨K - 1, by omega⟩)
  all_goals (first | rw [spec_PieceDigest.e5])
  all_goals (simp only [spec_PieceDigest.l0] at h)
  repeat' (with_reducible first
   | exact nos h
   | (cases some_inj h; exact spec_PieceDigest.rt _)
   | exact (ih _ (by omega)) _ (by omega) _ _ _ _ _ _ _ _ _ h
   | ((have q : spec_PieceDigest.j1 k _ _ _ _ _ _ _ _ _ = some _ := h; clear q); rcases k with _ | k <;> simp only [spec_PieceDigest.j1, reduceCtorEq] at h)
   | (simp only [Option.bind_some] at h)
   | (refine ite_by h (fun hc h => ?_) (fun hc h => ?_) <;> (try simp only [nrm] at hc))
   | refine itT ?_ (by first | assumption | omega | (simp only [nrm]; first | done | assumption | omega) | (simp only [nln] at hc ⊢; omega))
   | refine itF ?_ (by first | assumption | omega | (simp only [nrm]; first | done | assumption | omega) | (simp only [nln] at hc ⊢; omega))
   | (refine bind_by h (fun t ht h => ?_); (first | refine (spec_IsFeature.ap_of (spec_IsFeature.go ht _ (by omega))).trans ?_ | refine (spec_PartsOf.ap_of (spec_PartsOf.go ht _ (by omega))).trans ?_ | refine (spec_Hash.ap_of (spec_Hash.go ht _ (by omega))).trans ?_ | refine (spec_l1In.ap_of (spec_l1In.go ht _)).trans ?_); (try dsimp only at h ⊢))
   | (simp only [decide_not, Bool.decide_and, decide_true, Bool.and_true, Bool.not_and, beqI] at h ⊢)
   | (exfalso; omega))
theorem spec_PieceDigest.go {k : Nat} {a0_0 : Int} {a0_1 : Int} {a0_2 : Int} {a0_3 : ByteArray} {l0_4 : List S82} {a1 : Int} {t} (h : spec_PieceDigest.f k a0_0 a0_1 a0_2 a0_3 l0_4 a1 = some t) (K : Nat) (hK : k ≤ K) : spec_PieceDigest.run K ((⟨a0_0, a0_1, a0_2, a0_3, l0_4⟩ : S29), a1, ()) = some (spec_PieceDigest.toH t) := by
  rw [spec_PieceDigest.ef]
  (try dsimp only)
  unfold spec_PieceDigest.f at h
  repeat' (with_reducible first
   | exact nos h
   | (cases some_inj h; exact spec_PieceDigest.rt _)
   | exact (spec_PieceDigest.br _) _ (by omega) _ _ _ _ _ _ _ _ _ h
   | ((have q : spec_PieceDigest.j1 k _ _ _ _ _ _ _ _ _ = some _ := h; clear q); rcases k with _ | k <;> simp only [spec_PieceDigest.j1, reduceCtorEq] at h)
   | (simp only [Option.bind_some] at h)
   | (refine ite_by h (fun hc h => ?_) (fun hc h => ?_) <;> (try simp only [nrm] at hc))
   | refine itT ?_ (by first | assumption | omega | (simp only [nrm]; first | done | assumption | omega) | (simp only [nln] at hc ⊢; omega))
   | refine itF ?_ (by first | assumption | omega | (simp only [nrm]; first | done | assumption | omega) | (simp only [nln] at hc ⊢; omega))
   | (refine bind_by h (fun t ht h => ?_); (first | refine (spec_IsFeature.ap_of (spec_IsFeature.go ht _ (by omega))).trans ?_ | refine (spec_PartsOf.ap_of (spec_PartsOf.go ht _ (by omega))).trans ?_ | refine (spec_Hash.ap_of (spec_Hash.go ht _ (by omega))).trans ?_ | refine (spec_l1In.ap_of (spec_l1In.go ht _)).trans ?_); (try dsimp only at h ⊢))
   | (simp only [decide_not, Bool.decide_and, decide_true, Bool.and_true, Bool.not_and, beqI] at h ⊢)
   | (exfalso; omega))
def spec_IsSource.Fs : List (Spc env) := [spec_IsFeature.spec]
def spec_IsSource.fin : St eΓ → Option (HL eΓ [.b]) := finR env Try.f83.results.toList [.b]
def spec_IsSource.cut : Nat → Option (List (Lv SC)) := lk [(2, [⟨0, none, false⟩, ⟨3, none, false⟩])]
def spec_IsSource.ret (r0 : Bool) : Option (HL eΓ [.b]) := some (r0, ())
def spec_IsSource.p2 (k : Nat) (x3 : Int) (x0 : List S29) : Option (HL eΓ [.b]) := evM env spec_IsSource.Fs Try.f83.ntmps spec_IsSource.fin spec_IsSource.cut k [.code (sub_ [1, 0, 1, 0, 0, 0, 0] (bodyOf Try.f83)), .code (sub_ [1, 0, 1, 0, 0, 0, 1] (bodyOf Try.f83)), .code (sub_ [1, 0, 1, 0, 0, 1] (bodyOf Try.f83)), .lp (sub_ [1, 0, 1, 0, 0] (bodyOf Try.f83)), .blk 0, .code (sub_ [1, 1] (bodyOf Try.f83))] (mkSt [(0, .c (.sl 0)), (3, .c (.v (.int .i64 x3)))] [.row .ro 29 (.st .s29) x0])
theorem spec_IsSource.e2 (k : Nat) (x3 : Int) (x0 : List S29) : spec_IsSource.p2 (k + 1) x3 x0 = if x3 < (x0.length : Int) then (if 0 ≤ x3 then (if x3 < (x0.length : Int) then (spec_IsFeature.ap k (⟨(rd_T29 x0 x3).f0, (rd_T29 x0 x3).f1, (rd_T29 x0 x3).f2, (rd_T29 x0 x3).f3, (rd_T29 x0 x3).f4⟩ : S29) fun r1 => if (!r1) = true then (spec_IsSource.ret false) else (if x3 > 0 then (if 0 ≤ (wrap64 (x3 - 1)) then (if (wrap64 (x3 - 1)) < (x0.length : Int) then (if 0 ≤ x3 then (if x3 < (x0.length : Int) then (if ((rd_T29 x0 (wrap64 (x3 - 1))).f0) ≥ ((rd_T29 x0 x3).f0) then (spec_IsSource.ret false) else (spec_IsSource.p2 k (wrap64 (x3 + 1)) x0)) else none) else none) else none) else none) else (spec_IsSource.p2 k (wrap64 (x3 + 1)) x0))) else none) else none) else (spec_IsSource.ret (decide ((x0.length : Int) ≤ 16))) := by kernel_rfl
def spec_IsSource.run (k : Nat) (h : HL eΓ [.l 29 (.st .s29)]) : Option (HL eΓ [.b]) := evF env spec_IsSource.Fs Try.f83 spec_IsSource.cut [.l 29 (.st .s29)] [.b] k h
theorem spec_IsSource.ef (k : Nat) (h0 : List S29) : spec_IsSource.run k (h0, ()) = spec_IsSource.p2 k 0 h0 := by kernel_rfl
def spec_IsSource.toH (t : Bool) : HL eΓ [.b] := (t, ())
def spec_IsSource.spec : Spc env := ⟨83, [.l 29 (.st .s29)], [.b], spec_IsSource.run⟩
def spec_IsSource.ap {R : Type} (k : Nat) (h0 : List S29) (K : Bool → Option R) : Option R := (spec_IsSource.run k (h0, ())).bind fun r => K (r.1 : Bool)
theorem spec_IsSource.ap_of {R : Type} {k : Nat} {h0 : List S29} {r0 : Bool} {K : Bool → Option R} (h : spec_IsSource.run k (h0, ()) = some (r0, ())) : spec_IsSource.ap k h0 K = K r0 := by unfold spec_IsSource.ap; rw [h]; rfl
theorem spec_IsSource.snd : Snd env spec_IsSource.spec := evF_snd env_ok (sndC spec_IsFeature.snd (sndN)) (by kernel_rfl) (by kernel_rfl) (by kernel_rfl)
attribute [local irreducible] spec_IsSource.run
theorem spec_IsSource.rt (a0 : Bool) : spec_IsSource.ret a0 = some (spec_IsSource.toH (a0)) := rfl
theorem spec_IsSource.br (n : Nat) : (∀ K, n ≤ K → ∀ (x3 : Int) (x0 : List S29) t, spec_IsSource.l0 n x0 x3 = some t → spec_IsSource.p2 K x3 x0 = some (spec_IsSource.toH t)) := by
  induction n using Nat.strongRecOn with
  | _ n ih =>
  intro K hK x3 x0 t h
  all_goals (rcases n with _ | k)
  all_goals (try (exact nos h))
  all_goals (obtain ⟨K, rfl⟩ : ∃ q, K = q + 1 := ⟨K - 1, by omega⟩)
  all_goals (first | rw [spec_IsSource.e2])
  all_goals (simp only [spec_IsSource.l0] at h)
  repeat' (with_reducible first
   | exact nos h
   | (cases some_inj h; exact spec_IsSource.rt _)
   | exact (ih _ (by omega)) _ (by omega) _ _ _ h
   | (simp only [Option.bind_some] at h)
   | (refine ite_by h (fun hc h => ?_) (fun hc h => ?_) <;> (try simp only [nrm] at hc))
   | refine itT ?_ (by first | assumption | omega | (simp only [nrm]; first | done | assumption | omega) | (simp only [nln] at hc ⊢; omega))
   | refine itF ?_ (by first | assumption | omega | (simp only [nrm]; first | done | assumption | omega) | (simp only [nln] at hc ⊢; omega))
   | (refine bind_by h (fun t ht h => ?_); refine (spec_IsFeature.ap_of (spec_IsFeature.go ht _ (by omega))).trans ?_; (try dsimp only at h ⊢))
   | (simp only [decide_not, Bool.decide_and, decide_true, Bool.and_true, Bool.not_and, beqI] at h ⊢)
   | (exfalso; omega))
theorem spec_IsSource.go {k : Nat} {l0 : List S29} {t} (h : spec_IsSource.f k l0 = some t) (K : Nat) (hK : k ≤ K) : spec_IsSource.run K (l0, ()) = some (spec_IsSource.toH t) := by
  rw [spec_IsSource.ef]
  (try dsimp only)
  unfold spec_IsSource.f at h
  repeat' (with_reducible first
   | exact nos h
   | (cases some_inj h; exact spec_IsSource.rt _)
   | exact (spec_IsSource.br _) _ (by omega) _ _ _ h
   | (simp only [Option.bind_some] at h)
   | (refine ite_by h (fun hc h => ?_) (fun hc h => ?_) <;> (try simp only [nrm] at hc))
   | refine itT ?_ (by first | assumption | omega | (simp only [nrm]; first | done | assumption | omega) | (simp only [nln] at hc ⊢; omega))
   | refine itF ?_ (by first | assumption | omega | (simp only [nrm]; first | done | assumption | omega) | (simp only [nln] at hc ⊢; omega))
   | (refine bind_by h (fun t ht h => ?_); refine (spec_IsFeature.ap_of (spec_IsFeature.go ht _ (by omega))).trans ?_; (try dsimp only at h ⊢))
   | (simp only [decide_not, Bool.decide_and, decide_true, Bool.and_true, Bool.not_and, beqI] at h ⊢)
   | (exfalso; omega))
def spec_TileBox.Fs : List (Spc env) := [spec_l1In.spec, spec_Min.spec]
def spec_TileBox.cut : Nat → Option (List (Lv SC)) := lk []
def spec_TileBox.ret (r0 : S98) (r1 : Bool) : Option (HL eΓ [.st .s98, .b]) := some (r0, r1, ())
def spec_TileBox.run (k : Nat) (h : HL eΓ [.i .i64]) : Option (HL eΓ [.st .s98, .b]) := evF env spec_TileBox.Fs Try.f96 spec_TileBox.cut [.i .i64] [.st .s98, .b] k h
theorem spec_TileBox.ef (k : Nat) (h0 : Int) : spec_TileBox.run k (h0, ()) = spec_l1In.ap k h0 0 440 fun r1 => if (!r1) = true then (spec_TileBox.ret (⟨(⟨0, 0⟩ : S82), (⟨0, 0⟩ : S82)⟩ : S98) false) else (spec_Min.ap k 200 (wrap64 ((wrap64 ((Int.tmod h0 21) * 10)) + 10)) fun r2 => spec_Min.ap k 200 (wrap64 ((wrap64 ((wrap64 (Int.tdiv h0 21)) * 10)) + 10)) fun r3 => spec_TileBox.ret (⟨(⟨wrap64 ((Int.tmod h0 21) * 10), wrap64 ((wrap64 (Int.tdiv h0 21)) * 10)⟩ : S82), (⟨r2, r3⟩ : S82)⟩ : S98) true) := by kernel_rfl
def spec_TileBox.toH (t : Int × Int × Int × Int × Bool) : HL eΓ [.st .s98, .b] := ((⟨(⟨t.1, t.2.1⟩ : S82), (⟨t.2.2.1, t.2.2.2.1⟩ : S82)⟩ : S98), t.2.2.2.2, ())
def spec_TileBox.spec : Spc env := ⟨96, [.i .i64], [.st .s98, .b], spec_TileBox.run⟩
def spec_TileBox.ap {R : Type} (k : Nat) (h0 : Int) (K : S98 → Bool → Option R) : Option R := (spec_TileBox.run k (h0, ())).bind fun r => K (r.1 : S98) (r.2.1 : Bool)
theorem spec_TileBox.ap_of {R : Type} {k : Nat} {h0 : Int} {r0 : S98} {r1 : Bool} {K : S98 → Bool → Option R} (h : spec_TileBox.run k (h0, ()) = some (r0, r1, ())) : spec_TileBox.ap k h0 K = K r0 r1 := by unfold spec_TileBox.ap; rw [h]; rfl
theorem spec_TileBox.snd : Snd env spec_TileBox.spec := evF_snd env_ok (sndC spec_l1In.snd (sndC spec_Min.snd (sndN))) (by kernel_rfl) (by kernel_rfl) (by kernel_rfl)
attribute [local irreducible] spec_TileBox.run
theorem spec_TileBox.rt (a0 : Int) (a1 : Int) (a2 : Int) (a3 : Int) (a4 : Bool) : spec_TileBox.ret (⟨(⟨a0, a1⟩ : S82), (⟨a2, a3⟩ : S82)⟩ : S98) a4 = some (spec_TileBox.toH (a0, a1, a2, a3, a4)) := rfl
theorem spec_TileBox.go {a0 : Int} {t} (h : spec_TileBox.f a0 = some t) (K : Nat) : spec_TileBox.run K (a0, ()) = some (spec_TileBox.toH t) := by
  rw [spec_TileBox.ef]
  (try dsimp only)
  unfold spec_TileBox.f at h
  repeat' (with_reducible first
   | exact nos h
   | (cases some_inj h; exact spec_TileBox.rt _ _ _ _ _)
   | (simp only [Option.bind_some] at h)
   | (refine ite_by h (fun hc h => ?_) (fun hc h => ?_) <;> (try simp only [nrm] at hc))
   | refine itT ?_ (by first | assumption | omega | (simp only [nrm]; first | done | assumption | omega) | (simp only [nln] at hc ⊢; omega))
   | refine itF ?_ (by first | assumption | omega | (simp only [nrm]; first | done | assumption | omega) | (simp only [nln] at hc ⊢; omega))
   | (refine bind_by h (fun t ht h => ?_); (first | refine (spec_l1In.ap_of (spec_l1In.go ht _)).trans ?_ | refine (spec_Min.ap_of (spec_Min.go ht _)).trans ?_); (try dsimp only at h ⊢))
   | (simp only [decide_not, Bool.decide_and, decide_true, Bool.and_true, Bool.not_and, beqI] at h ⊢)
   | (exfalso; omega))
def spec_IsBox.Fs : List (Spc env) := [spec_IsPoint.spec]
def spec_IsBox.cut : Nat → Option (List (Lv SC)) := lk []
def spec_IsBox.ret (r0 : Bool) : Option (HL eΓ [.b]) := some (r0, ())
def spec_IsBox.run (k : Nat) (h : HL eΓ [.st .s98]) : Option (HL eΓ [.b]) := evF env spec_IsBox.Fs Try.f157 spec_IsBox.cut [.st .s98] [.b] k h
theorem spec_IsBox.ef (k : Nat) (h0 : S98) : spec_IsBox.run k (h0, ()) = spec_IsPoint.ap k (⟨h0.f0.f0, h0.f0.f1⟩ : S82) fun r1 => if r1 = true then (spec_IsPoint.ap k (⟨h0.f1.f0, h0.f1.f1⟩ : S82) fun r2 => if r2 = true then (if h0.f0.f0 ≤ h0.f1.f0 then (spec_IsBox.ret (decide (h0.f0.f1 ≤ h0.f1.f1))) else (spec_IsBox.ret false)) else (spec_IsBox.ret false)) else (spec_IsBox.ret false) := by kernel_rfl
def spec_IsBox.toH (t : Bool) : HL eΓ [.b] := (t, ())
def spec_IsBox.spec : Spc env := ⟨157, [.st .s98], [.b], spec_IsBox.run⟩
def spec_IsBox.ap {R : Type} (k : Nat) (h0 : S98) (K : Bool → Option R) : Option R := (spec_IsBox.run k (h0, ())).bind fun r => K (r.1 : Bool)
theorem spec_IsBox.ap_of {R : Type} {k : Nat} {h0 : S98} {r0 : Bool} {K : Bool → Option R} (h : spec_IsBox.run k (h0, ()) = some (r0, ())) : spec_IsBox.ap k h0 K = K r0 := by unfold spec_IsBox.ap; rw [h]; rfl
theorem spec_IsBox.snd : Snd env spec_IsBox.spec := evF_snd env_ok (sndC spec_IsPoint.snd (sndN)) (by kernel_rfl) (by kernel_rfl) (by kernel_rfl)
attribute [local irreducible] spec_IsBox.run
theorem spec_IsBox.rt (a0 : Bool) : spec_IsBox.ret a0 = some (spec_IsBox.toH (a0)) := rfl
theorem spec_IsBox.go {a0_0 : Int} {a0_1 : Int} {a0_2 : Int} {a0_3 : Int} {t} (h : spec_IsBox.f a0_0 a0_1 a0_2 a0_3 = some t) (K : Nat) : spec_IsBox.run K ((⟨(⟨a0_0, a0_1⟩ : S82), (⟨a0_2, a0_3⟩ : S82)⟩ : S98), ()) = some (spec_IsBox.toH t) := by
  rw [spec_IsBox.ef]
  (try dsimp only)
  unfold spec_IsBox.f at h
  repeat' (with_reducible first
   | exact nos h
   | (cases some_inj h; exact spec_IsBox.rt _)
   | (simp only [Option.bind_some] at h)
   | (refine ite_by h (fun hc h => ?_) (fun hc h => ?_) <;> (try simp only [nrm] at hc))
   | refine itT ?_ (by first | assumption | omega | (simp only [nrm]; first | done | assumption | omega) | (simp only [nln] at hc ⊢; omega))
   | refine itF ?_ (by first | assumption | omega | (simp only [nrm]; first | done | assumption | omega) | (simp only [nln] at hc ⊢; omega))
   | (refine bind_by h (fun t ht h => ?_); refine (spec_IsPoint.ap_of (spec_IsPoint.go ht _)).trans ?_; (try dsimp only at h ⊢))
   | (simp only [decide_not, Bool.decide_and, decide_true, Bool.and_true, Bool.not_and, beqI] at h ⊢)
   | (exfalso; omega))
def spec_InBox.Fs : List (Spc env) := [spec_IsBox.spec, spec_l1In.spec]
def spec_InBox.cut : Nat → Option (List (Lv SC)) := lk []
def spec_InBox.ret (r0 : Bool) : Option (HL eΓ [.b]) := some (r0, ())
def spec_InBox.run (k : Nat) (h : HL eΓ [.st .s98, .st .s82]) : Option (HL eΓ [.b]) := evF env spec_InBox.Fs Try.f141 spec_InBox.cut [.st .s98, .st .s82] [.b] k h
theorem spec_InBox.ef (k : Nat) (h0 : S98) (h1 : S82) : spec_InBox.run k (h0, h1, ()) = spec_IsBox.ap k (⟨(⟨h0.f0.f0, h0.f0.f1⟩ : S82), (⟨h0.f1.f0, h0.f1.f1⟩ : S82)⟩ : S98) fun r1 => if r1 = true then (spec_l1In.ap k h1.f0 h0.f0.f0 h0.f1.f0 fun r2 => if r2 = true then (spec_l1In.ap k h1.f1 h0.f0.f1 h0.f1.f1 fun r3 => spec_InBox.ret r3) else (spec_InBox.ret false)) else (spec_InBox.ret false) := by kernel_rfl
def spec_InBox.toH (t : Bool) : HL eΓ [.b] := (t, ())
def spec_InBox.spec : Spc env := ⟨141, [.st .s98, .st .s82], [.b], spec_InBox.run⟩
def spec_InBox.ap {R : Type} (k : Nat) (h0 : S98) (h1 : S82) (K : Bool → Option R) : Option R := (spec_InBox.run k (h0, h1, ())).bind fun r => K (r.1 : Bool)
theorem spec_InBox.ap_of {R : Type} {k : Nat} {h0 : S98} {h1 : S82} {r0 : Bool} {K : Bool → Option R} (h : spec_InBox.run k (h0, h1, ()) = some (r0, ())) : spec_InBox.ap k h0 h1 K = K r0 := by unfold spec_InBox.ap; rw [h]; rfl
theorem spec_InBox.snd : Snd env spec_InBox.spec := evF_snd env_ok (sndC spec_IsBox.snd (sndC spec_l1In.snd (sndN))) (by kernel_rfl) (by kernel_rfl) (by kernel_rfl)
attribute [local irreducible] spec_InBox.run
theorem spec_InBox.rt (a0 : Bool) : spec_InBox.ret a0 = some (spec_InBox.toH (a0)) := rfl
theorem spec_InBox.go {a0_0 : Int} {a0_1 : Int} {a0_2 : Int} {a0_3 : Int} {a1_0 : Int} {a1_1 : Int} {t} (h : spec_InBox.f a0_0 a0_1 a0_2 a0_3 a1_0 a1_1 = some t) (K : Nat) : spec_InBox.run K ((⟨(⟨a0_0, a0_1⟩ : S82), (⟨a0_2, a0_3⟩ : S82)⟩ : S98), (⟨a1_0, a1_1⟩ : S82), ()) = some (spec_InBox.toH t) := by
  rw [spec_InBox.ef]
  (try dsimp only)
  unfold spec_InBox.f at h
  repeat' (with_reducible first
   | exact nos h
   | (cases some_inj h; exact spec_InBox.rt _)
   | (simp only [Option.bind_some] at h)
   | (refine ite_by h (fun hc h => ?_) (fun hc h => ?_) <;> (try simp only [nrm] at hc))
   | refine itT ?_ (by first | assumption | omega | (simp only [nrm]; first | done | assumption | omega) | (simp only [nln] at hc ⊢; omega))
   | refine itF ?_ (by first | assumption | omega | (simp only [nrm]; first | done | assumption | omega) | (simp only [nln] at hc ⊢; omega))
   | (refine bind_by h (fun t ht h => ?_); (first | refine (spec_IsBox.ap_of (spec_IsBox.go ht _)).trans ?_ | refine (spec_l1In.ap_of (spec_l1In.go ht _)).trans ?_); (try dsimp only at h ⊢))
   | (simp only [decide_not, Bool.decide_and, decide_true, Bool.and_true, Bool.not_and, beqI] at h ⊢)
   | (exfalso; omega))
def spec_BoxOf.Fs : List (Spc env) := [spec_IsPoint.spec, spec_Min.spec, spec_Max.spec]
def spec_BoxOf.fin : St eΓ → Option (HL eΓ [.st .s98, .b]) := finR env Try.f162.results.toList [.st .s98, .b]
def spec_BoxOf.cut : Nat → Option (List (Lv SC)) := lk [(5, [⟨0, none, false⟩, ⟨2, none, false⟩, ⟨4, none, false⟩, ⟨5, none, false⟩])]
def spec_BoxOf.ret (r0 : S98) (r1 : Bool) : Option (HL eΓ [.st .s98, .b]) := some (r0, r1, ())
def spec_BoxOf.p5 (k : Nat) (x5 : Int) (x0 : List S82) (b1_0 : Int) (b1_1 : Int) (b1_2 : Int) (b1_3 : Int) (b2_0 : Int) (b2_1 : Int) (b2_2 : Int) (b2_3 : Int) : Option (HL eΓ [.st .s98, .b]) := evM env spec_BoxOf.Fs Try.f162.ntmps spec_BoxOf.fin spec_BoxOf.cut k [.code (sub_ [1, 1, 1, 0, 1, 0, 0, 0, 0] (bodyOf Try.f162)), .code (sub_ [1, 1, 1, 0, 1, 0, 0, 0, 1] (bodyOf Try.f162)), .code (sub_ [1, 1, 1, 0, 1, 0, 0, 1] (bodyOf Try.f162)), .lp (sub_ [1, 1, 1, 0, 1, 0, 0] (bodyOf Try.f162)), .blk 0, .code (sub_ [1, 1, 1, 1] (bodyOf Try.f162))] (mkSt [(0, .c (.sl 0)), (2, .c (.ptr 1 0)), (4, .c (.ptr 2 0)), (5, .c (.v (.int .i64 x5)))] [.row .ro 82 (.st .s82) x0, .box 98 [.v (.int .i64 b1_0), .v (.int .i64 b1_1), .v (.int .i64 b1_2), .v (.int .i64 b1_3)], .box 98 [.v (.int .i64 b2_0), .v (.int .i64 b2_1), .v (.int .i64 b2_2), .v (.int .i64 b2_3)]])
theorem spec_BoxOf.e5 (k : Nat) (x5 : Int) (x0 : List S82) (b1_0 : Int) (b1_1 : Int) (b1_2 : Int) (b1_3 : Int) (b2_0 : Int) (b2_1 : Int) (b2_2 : Int) (b2_3 : Int) : spec_BoxOf.p5 (k + 1) x5 x0 b1_0 b1_1 b1_2 b1_3 b2_0 b2_1 b2_2 b2_3 = if x5 < (x0.length : Int) then (if 0 ≤ x5 then (if x5 < (x0.length : Int) then (spec_IsPoint.ap k (⟨(rd_T82 x0 x5).f0, (rd_T82 x0 x5).f1⟩ : S82) fun r1 => if (!r1) = true then (spec_BoxOf.ret (⟨(⟨0, 0⟩ : S82), (⟨0, 0⟩ : S82)⟩ : S98) false) else (if 0 ≤ x5 then (if x5 < (x0.length : Int) then (spec_Min.ap k b2_0 ((rd_T82 x0 x5).f0) fun r2 => if 0 ≤ x5 then (if x5 < (x0.length : Int) then (spec_Min.ap k b2_1 ((rd_T82 x0 x5).f1) fun r3 => if 0 ≤ x5 then (if x5 < (x0.length : Int) then (spec_Max.ap k b2_2 ((rd_T82 x0 x5).f0) fun r4 => if 0 ≤ x5 then (if x5 < (x0.length : Int) then (spec_Max.ap k b2_3 ((rd_T82 x0 x5).f1) fun r5 => spec_BoxOf.p5 k (wrap64 (x5 + 1)) x0 b1_0 b1_1 b1_2 b1_3 r2 r3 r4 r5) else none) else none) else none) else none) else none) else none) else none) else none)) else none) else none) else (spec_BoxOf.ret (⟨(⟨b2_0, b2_1⟩ : S82), (⟨b2_2, b2_3⟩ : S82)⟩ : S98) true) := by kernel_rfl
def spec_BoxOf.run (k : Nat) (h : HL eΓ [.l 82 (.st .s82)]) : Option (HL eΓ [.st .s98, .b]) := evF env spec_BoxOf.Fs Try.f162 spec_BoxOf.cut [.l 82 (.st .s82)] [.st .s98, .b] k h
theorem spec_BoxOf.ef (k : Nat) (h0 : List S82) : spec_BoxOf.run k (h0, ()) = if (h0.length : Int) = 0 then (spec_BoxOf.ret (⟨(⟨0, 0⟩ : S82), (⟨0, 0⟩ : S82)⟩ : S98) false) else (if 0 < (h0.length : Int) then (if 0 < (h0.length : Int) then (spec_BoxOf.p5 k 0 h0 0 0 0 0 ((rd_T82 h0 0).f0) ((rd_T82 h0 0).f1) ((rd_T82 h0 0).f0) ((rd_T82 h0 0).f1)) else none) else none) := by kernel_rfl
def spec_BoxOf.toH (t : Int × Int × Int × Int × Bool) : HL eΓ [.st .s98, .b] := ((⟨(⟨t.1, t.2.1⟩ : S82), (⟨t.2.2.1, t.2.2.2.1⟩ : S82)⟩ : S98), t.2.2.2.2, ())
def spec_BoxOf.spec : Spc env := ⟨162, [.l 82 (.st .s82)], [.st .s98, .b], spec_BoxOf.run⟩
def spec_BoxOf.ap {R : Type} (k : Nat) (h0 : List S82) (K : S98 → Bool → Option R) : Option R := (spec_BoxOf.run k (h0, ())).bind fun r => K (r.1 : S98) (r.2.1 : Bool)
theorem spec_BoxOf.ap_of {R : Type} {k : Nat} {h0 : List S82} {r0 : S98} {r1 : Bool} {K : S98 → Bool → Option R} (h : spec_BoxOf.run k (h0, ()) = some (r0, r1, ())) : spec_BoxOf.ap k h0 K = K r0 r1 := by unfold spec_BoxOf.ap; rw [h]; rfl
theorem spec_BoxOf.snd : Snd env spec_BoxOf.spec := evF_snd env_ok (sndC spec_IsPoint.snd (sndC spec_Min.snd (sndC spec_Max.snd (sndN)))) (by kernel_rfl) (by kernel_rfl) (by kernel_rfl)
attribute [local irreducible] spec_BoxOf.run
theorem spec_BoxOf.rt (a0 : Int) (a1 : Int) (a2 : Int) (a3 : Int) (a4 : Bool) : spec_BoxOf.ret (⟨(⟨a0, a1⟩ : S82), (⟨a2, a3⟩ : S82)⟩ : S98) a4 = some (spec_BoxOf.toH (a0, a1, a2, a3, a4)) := rfl
theorem spec_BoxOf.br (n : Nat) : (∀ K, n ≤ K → ∀ (x5 : Int) (x0 : List S82) (b1_0 : Int) (b1_1 : Int) (b1_2 : Int) (b1_3 : Int) (b2_0 : Int) (b2_1 : Int) (b2_2 : Int) (b2_3 : Int) t, spec_BoxOf.l0 n x0 x5 b2_0 b2_1 b2_2 b2_3 = some t → spec_BoxOf.p5 K x5 x0 b1_0 b1_1 b1_2 b1_3 b2_0 b2_1 b2_2 b2_3 = some (spec_BoxOf.toH t)) := by
  induction n using Nat.strongRecOn with
  | _ n ih =>
  intro K hK x5 x0 b1_0 b1_1 b1_2 b1_3 b2_0 b2_1 b2_2 b2_3 t h
  all_goals (rcases n with _ | k)
  all_goals (try (exact nos h))
  all_goals (obtain ⟨K, rfl⟩ : ∃ q, K = q + 1 := ⟨K - 1, by omega⟩)
  all_goals (first | rw [spec_BoxOf.e5])
  all_goals (simp only [spec_BoxOf.l0] at h)
  repeat' (with_reducible first
   | exact nos h
   | (cases some_inj h; exact spec_BoxOf.rt _ _ _ _ _)
   | exact (ih _ (by omega)) _ (by omega) _ _ _ _ _ _ _ _ _ _ _ h
   | (simp only [Option.bind_some] at h)
   | (refine ite_by h (fun hc h => ?_) (fun hc h => ?_) <;> (try simp only [nrm] at hc))
   | refine itT ?_ (by first | assumption | omega | (simp only [nrm]; first | done | assumption | omega) | (simp only [nln] at hc ⊢; omega))
   | refine itF ?_ (by first | assumption | omega | (simp only [nrm]; first | done | assumption | omega) | (simp only [nln] at hc ⊢; omega))
   | (refine bind_by h (fun t ht h => ?_); (first | refine (spec_IsPoint.ap_of (spec_IsPoint.go ht _)).trans ?_ | refine (spec_Min.ap_of (spec_Min.go ht _)).trans ?_ | refine (spec_Max.ap_of (spec_Max.go ht _)).trans ?_); (try dsimp only at h ⊢))
   | (simp only [decide_not, Bool.decide_and, decide_true, Bool.and_true, Bool.not_and, beqI] at h ⊢)
   | (exfalso; omega))
theorem spec_BoxOf.go {k : Nat} {l0 : List S82} {t} (h : spec_BoxOf.f k l0 = some t) (K : Nat) (hK : k ≤ K) : spec_BoxOf.run K (l0, ()) = some (spec_BoxOf.toH t) := by
  rw [spec_BoxOf.ef]
  (try dsimp only)
  unfold spec_BoxOf.f at h
  repeat' (with_reducible first
   | exact nos h
   | (cases some_inj h; exact spec_BoxOf.rt _ _ _ _ _)
   | exact (spec_BoxOf.br _) _ (by omega) _ _ _ _ _ _ _ _ _ _ _ h
   | (simp only [Option.bind_some] at h)
   | (refine ite_by h (fun hc h => ?_) (fun hc h => ?_) <;> (try simp only [nrm] at hc))
   | refine itT ?_ (by first | assumption | omega | (simp only [nrm]; first | done | assumption | omega) | (simp only [nln] at hc ⊢; omega))
   | refine itF ?_ (by first | assumption | omega | (simp only [nrm]; first | done | assumption | omega) | (simp only [nln] at hc ⊢; omega))
   | (refine bind_by h (fun t ht h => ?_); (first | refine (spec_IsPoint.ap_of (spec_IsPoint.go ht _)).trans ?_ | refine (spec_Min.ap_of (spec_Min.go ht _)).trans ?_ | refine (spec_Max.ap_of (spec_Max.go ht _)).trans ?_); (try dsimp only at h ⊢))
   | (simp only [decide_not, Bool.decide_and, decide_true, Bool.and_true, Bool.not_and, beqI] at h ⊢)
   | (exfalso; omega))
def spec_BoxesMeet.Fs : List (Spc env) := [spec_IsBox.spec]
def spec_BoxesMeet.cut : Nat → Option (List (Lv SC)) := lk []
def spec_BoxesMeet.ret (r0 : Bool) : Option (HL eΓ [.b]) := some (r0, ())
def spec_BoxesMeet.run (k : Nat) (h : HL eΓ [.st .s98, .st .s98]) : Option (HL eΓ [.b]) := evF env spec_BoxesMeet.Fs Try.f163 spec_BoxesMeet.cut [.st .s98, .st .s98] [.b] k h
theorem spec_BoxesMeet.ef (k : Nat) (h0 : S98) (h1 : S98) : spec_BoxesMeet.run k (h0, h1, ()) = spec_IsBox.ap k (⟨(⟨h0.f0.f0, h0.f0.f1⟩ : S82), (⟨h0.f1.f0, h0.f1.f1⟩ : S82)⟩ : S98) fun r1 => if r1 = true then (spec_IsBox.ap k (⟨(⟨h1.f0.f0, h1.f0.f1⟩ : S82), (⟨h1.f1.f0, h1.f1.f1⟩ : S82)⟩ : S98) fun r2 => if r2 = true then (if h0.f0.f0 ≤ h1.f1.f0 then (if h1.f0.f0 ≤ h0.f1.f0 then (if h0.f0.f1 ≤ h1.f1.f1 then (spec_BoxesMeet.ret (decide (h1.f0.f1 ≤ h0.f1.f1))) else (spec_BoxesMeet.ret false)) else (spec_BoxesMeet.ret false)) else (spec_BoxesMeet.ret false)) else (spec_BoxesMeet.ret false)) else (spec_BoxesMeet.ret false) := by kernel_rfl
def spec_BoxesMeet.toH (t : Bool) : HL eΓ [.b] := (t, ())
def spec_BoxesMeet.spec : Spc env := ⟨163, [.st .s98, .st .s98], [.b], spec_BoxesMeet.run⟩
def spec_BoxesMeet.ap {R : Type} (k : Nat) (h0 : S98) (h1 : S98) (K : Bool → Option R) : Option R := (spec_BoxesMeet.run k (h0, h1, ())).bind fun r => K (r.1 : Bool)
theorem spec_BoxesMeet.ap_of {R : Type} {k : Nat} {h0 : S98} {h1 : S98} {r0 : Bool} {K : Bool → Option R} (h : spec_BoxesMeet.run k (h0, h1, ()) = some (r0, ())) : spec_BoxesMeet.ap k h0 h1 K = K r0 := by unfold spec_BoxesMeet.ap; rw [h]; rfl
theorem spec_BoxesMeet.snd : Snd env spec_BoxesMeet.spec := evF_snd env_ok (sndC spec_IsBox.snd (sndN)) (by kernel_rfl) (by kernel_rfl) (by kernel_rfl)
attribute [local irreducible] spec_BoxesMeet.run
theorem spec_BoxesMeet.rt (a0 : Bool) : spec_BoxesMeet.ret a0 = some (spec_BoxesMeet.toH (a0)) := rfl
theorem spec_BoxesMeet.go {a0_0 : Int} {a0_1 : Int} {a0_2 : Int} {a0_3 : Int} {a1_0 : Int} {a1_1 : Int} {a1_2 : Int} {a1_3 : Int} {t} (h : spec_BoxesMeet.f a0_0 a0_1 a0_2 a0_3 a1_0 a1_1 a1_2 a1_3 = some t) (K : Nat) : spec_BoxesMeet.run K ((⟨(⟨a0_0, a0_1⟩ : S82), (⟨a0_2, a0_3⟩ : S82)⟩ : S98), (⟨(⟨a1_0, a1_1⟩ : S82), (⟨a1_2, a1_3⟩ : S82)⟩ : S98), ()) = some (spec_BoxesMeet.toH t) := by
  rw [spec_BoxesMeet.ef]
  (try dsimp only)
  unfold spec_BoxesMeet.f at h
  repeat' (with_reducible first
   | exact nos h
   | (cases some_inj h; exact spec_BoxesMeet.rt _)
   | (simp only [Option.bind_some] at h)
   | (refine ite_by h (fun hc h => ?_) (fun hc h => ?_) <;> (try simp only [nrm] at hc))
   | refine itT ?_ (by first | assumption | omega | (simp only [nrm]; first | done | assumption | omega) | (simp only [nln] at hc ⊢; omega))
   | refine itF ?_ (by first | assumption | omega | (simp only [nrm]; first | done | assumption | omega) | (simp only [nln] at hc ⊢; omega))
   | (refine bind_by h (fun t ht h => ?_); refine (spec_IsBox.ap_of (spec_IsBox.go ht _)).trans ?_; (try dsimp only at h ⊢))
   | (simp only [decide_not, Bool.decide_and, decide_true, Bool.and_true, Bool.not_and, beqI] at h ⊢)
   | (exfalso; omega))
def spec_MeetsBox.Fs : List (Spc env) := [spec_BoxOf.spec, spec_IsSegment.spec, spec_BoxesMeet.spec, spec_SideOf.spec]
def spec_MeetsBox.fin : St eΓ → Option (HL eΓ [.b]) := finR env Try.f142.results.toList [.b]
def spec_MeetsBox.cut : Nat → Option (List (Lv SC)) := lk [(8, [⟨2, none, false⟩, ⟨7, none, false⟩, ⟨8, none, false⟩, ⟨9, none, false⟩, ⟨10, none, false⟩])]
def spec_MeetsBox.ret (r0 : Bool) : Option (HL eΓ [.b]) := some (r0, ())
def spec_MeetsBox.p8 (k : Nat) (x8 : Int) (x9 : Int) (x10 : Int) (b0_0 : Int) (b0_1 : Int) (b0_2 : Int) (b0_3 : Int) (x7 : List S82) : Option (HL eΓ [.b]) := evM env spec_MeetsBox.Fs Try.f142.ntmps spec_MeetsBox.fin spec_MeetsBox.cut k [.code (sub_ [1, 1, 1, 1, 1, 1, 0, 1, 0, 0, 0, 0] (bodyOf Try.f142)), .code (sub_ [1, 1, 1, 1, 1, 1, 0, 1, 0, 0, 0, 1] (bodyOf Try.f142)), .code (sub_ [1, 1, 1, 1, 1, 1, 0, 1, 0, 0, 1] (bodyOf Try.f142)), .lp (sub_ [1, 1, 1, 1, 1, 1, 0, 1, 0, 0] (bodyOf Try.f142)), .blk 0, .code (sub_ [1, 1, 1, 1, 1, 1, 1] (bodyOf Try.f142))] (mkSt [(2, .c (.ptr 0 0)), (7, .c (.sl 1)), (8, .c (.v (.int .i64 x8))), (9, .c (.v (.int .i64 x9))), (10, .c (.v (.int .i64 x10)))] [.box 85 [.v (.int .i64 b0_0), .v (.int .i64 b0_1), .v (.int .i64 b0_2), .v (.int .i64 b0_3)], .row .own 82 (.st .s82) x7])
theorem spec_MeetsBox.e8 (k : Nat) (x8 : Int) (x9 : Int) (x10 : Int) (b0_0 : Int) (b0_1 : Int) (b0_2 : Int) (b0_3 : Int) (x7 : List S82) : spec_MeetsBox.p8 (k + 1) x8 x9 x10 b0_0 b0_1 b0_2 b0_3 x7 = if x10 < 4 then (if 0 ≤ x10 then (if x10 < (x7.length : Int) then (spec_SideOf.ap k (⟨b0_0, b0_1⟩ : S82) (⟨b0_2, b0_3⟩ : S82) (⟨(rd_T82 x7 x10).f0, (rd_T82 x7 x10).f1⟩ : S82) fun r1 => if r1 = 1 then (spec_MeetsBox.p8 k (wrap64 (x8 + 1)) x9 (wrap64 (x10 + 1)) b0_0 b0_1 b0_2 b0_3 x7) else (if r1 = (-1) then (spec_MeetsBox.p8 k x8 (wrap64 (x9 + 1)) (wrap64 (x10 + 1)) b0_0 b0_1 b0_2 b0_3 x7) else (spec_MeetsBox.p8 k x8 x9 (wrap64 (x10 + 1)) b0_0 b0_1 b0_2 b0_3 x7))) else none) else none) else (if x8 < 4 then (spec_MeetsBox.ret (decide (x9 < 4))) else (spec_MeetsBox.ret false)) := by kernel_rfl
def spec_MeetsBox.run (k : Nat) (h : HL eΓ [.st .s85, .st .s98]) : Option (HL eΓ [.b]) := evF env spec_MeetsBox.Fs Try.f142 spec_MeetsBox.cut [.st .s85, .st .s98] [.b] k h
theorem spec_MeetsBox.ef (k : Nat) (h0 : S85) (h1 : S98) : spec_MeetsBox.run k (h0, h1, ()) = spec_BoxOf.ap k ([(⟨h0.f0.f0, h0.f0.f1⟩ : S82), (⟨h0.f1.f0, h0.f1.f1⟩ : S82)] : List S82) fun r1_0 r1_1 => spec_IsSegment.ap k (⟨(⟨h0.f0.f0, h0.f0.f1⟩ : S82), (⟨h0.f1.f0, h0.f1.f1⟩ : S82)⟩ : S85) fun r2 => if (!r2) = true then (spec_MeetsBox.ret false) else (spec_BoxesMeet.ap k (⟨(⟨r1_0.f0.f0, r1_0.f0.f1⟩ : S82), (⟨r1_0.f1.f0, r1_0.f1.f1⟩ : S82)⟩ : S98) (⟨(⟨h1.f0.f0, h1.f0.f1⟩ : S82), (⟨h1.f1.f0, h1.f1.f1⟩ : S82)⟩ : S98) fun r3 => if (!r3) = true then (spec_MeetsBox.ret false) else (spec_MeetsBox.p8 k 0 0 0 h0.f0.f0 h0.f0.f1 h0.f1.f0 h0.f1.f1 ([(⟨h1.f0.f0, h1.f0.f1⟩ : S82), (⟨h1.f0.f0, h1.f1.f1⟩ : S82), (⟨h1.f1.f0, h1.f1.f1⟩ : S82), (⟨h1.f1.f0, h1.f0.f1⟩ : S82)] : List S82))) := by kernel_rfl
def spec_MeetsBox.toH (t : Bool) : HL eΓ [.b] := (t, ())
def spec_MeetsBox.spec : Spc env := ⟨142, [.st .s85, .st .s98], [.b], spec_MeetsBox.run⟩
def spec_MeetsBox.ap {R : Type} (k : Nat) (h0 : S85) (h1 : S98) (K : Bool → Option R) : Option R := (spec_MeetsBox.run k (h0, h1, ())).bind fun r => K (r.1 : Bool)
theorem spec_MeetsBox.ap_of {R : Type} {k : Nat} {h0 : S85} {h1 : S98} {r0 : Bool} {K : Bool → Option R} (h : spec_MeetsBox.run k (h0, h1, ()) = some (r0, ())) : spec_MeetsBox.ap k h0 h1 K = K r0 := by unfold spec_MeetsBox.ap; rw [h]; rfl
theorem spec_MeetsBox.snd : Snd env spec_MeetsBox.spec := evF_snd env_ok (sndC spec_BoxOf.snd (sndC spec_IsSegment.snd (sndC spec_BoxesMeet.snd (sndC spec_SideOf.snd (sndN))))) (by kernel_rfl) (by kernel_rfl) (by kernel_rfl)
attribute [local irreducible] spec_MeetsBox.run
theorem spec_MeetsBox.rt (a0 : Bool) : spec_MeetsBox.ret a0 = some (spec_MeetsBox.toH (a0)) := rfl
theorem spec_MeetsBox.br (n : Nat) : (∀ K, n ≤ K → ∀ (x8 : Int) (x9 : Int) (x10 : Int) (b0_0 : Int) (b0_1 : Int) (b0_2 : Int) (b0_3 : Int) (x7 : List S82) t, spec_MeetsBox.l0 n x7 x8 x9 x10 b0_0 b0_1 b0_2 b0_3 = some t → spec_MeetsBox.p8 K x8 x9 x10 b0_0 b0_1 b0_2 b0_3 x7 = some (spec_MeetsBox.toH t)) := by
  induction n using Nat.strongRecOn with
  | _ n ih =>
  intro K hK x8 x9 x10 b0_0 b0_1 b0_2 b0_3 x7 t h
  all_goals (rcases n with _ | k)
  all_goals (try (exact nos h))
  all_goals (obtain ⟨K, rfl⟩ : ∃ q, K = q + 1 := ⟨K - 1, by omega⟩)
  all_goals (first | rw [spec_MeetsBox.e8])
  all_goals (simp only [spec_MeetsBox.l0] at h)
  repeat' (with_reducible first
   | exact nos h
   | (cases some_inj h; exact spec_MeetsBox.rt _)
   | exact (ih _ (by omega)) _ (by omega) _ _ _ _ _ _ _ _ _ h
   | ((have q : spec_MeetsBox.j0 k _ _ _ _ _ _ _ _ _ = some _ := h; clear q); rcases k with _ | k <;> simp only [spec_MeetsBox.j0, reduceCtorEq] at h)
   | (simp only [Option.bind_some] at h)
   | (refine ite_by h (fun hc h => ?_) (fun hc h => ?_) <;> (try simp only [nrm] at hc))
   | refine itT ?_ (by first | assumption | omega | (simp only [nrm]; first | done | assumption | omega) | (simp only [nln] at hc ⊢; omega))
   | refine itF ?_ (by first | assumption | omega | (simp only [nrm]; first | done | assumption | omega) | (simp only [nln] at hc ⊢; omega))
   | (refine bind_by h (fun t ht h => ?_); (first | refine (spec_BoxOf.ap_of (spec_BoxOf.go ht _ (by omega))).trans ?_ | refine (spec_IsSegment.ap_of (spec_IsSegment.go ht _)).trans ?_ | refine (spec_BoxesMeet.ap_of (spec_BoxesMeet.go ht _)).trans ?_ | refine (spec_SideOf.ap_of (spec_SideOf.go ht _)).trans ?_); (try dsimp only at h ⊢))
   | (simp only [decide_not, Bool.decide_and, decide_true, Bool.and_true, Bool.not_and, beqI] at h ⊢)
   | (exfalso; omega))
theorem spec_MeetsBox.go {k : Nat} {a0_0 : Int} {a0_1 : Int} {a0_2 : Int} {a0_3 : Int} {a1_0 : Int} {a1_1 : Int} {a1_2 : Int} {a1_3 : Int} {t} (h : spec_MeetsBox.f k a0_0 a0_1 a0_2 a0_3 a1_0 a1_1 a1_2 a1_3 = some t) (K : Nat) (hK : k ≤ K) : spec_MeetsBox.run K ((⟨(⟨a0_0, a0_1⟩ : S82), (⟨a0_2, a0_3⟩ : S82)⟩ : S85), (⟨(⟨a1_0, a1_1⟩ : S82), (⟨a1_2, a1_3⟩ : S82)⟩ : S98), ()) = some (spec_MeetsBox.toH t) := by
  rw [spec_MeetsBox.ef]
  (try dsimp only)
  unfold spec_MeetsBox.f at h
  repeat' (with_reducible first
   | exact nos h
   | (cases some_inj h; exact spec_MeetsBox.rt _)
   | exact (spec_MeetsBox.br _) _ (by omega) _ _ _ _ _ _ _ _ _ h
   | ((have q : spec_MeetsBox.j0 k _ _ _ _ _ _ _ _ _ = some _ := h; clear q); rcases k with _ | k <;> simp only [spec_MeetsBox.j0, reduceCtorEq] at h)
   | (simp only [Option.bind_some] at h)
   | (refine ite_by h (fun hc h => ?_) (fun hc h => ?_) <;> (try simp only [nrm] at hc))
   | refine itT ?_ (by first | assumption | omega | (simp only [nrm]; first | done | assumption | omega) | (simp only [nln] at hc ⊢; omega))
   | refine itF ?_ (by first | assumption | omega | (simp only [nrm]; first | done | assumption | omega) | (simp only [nln] at hc ⊢; omega))
   | (refine bind_by h (fun t ht h => ?_); (first | refine (spec_BoxOf.ap_of (spec_BoxOf.go ht _ (by omega))).trans ?_ | refine (spec_IsSegment.ap_of (spec_IsSegment.go ht _)).trans ?_ | refine (spec_BoxesMeet.ap_of (spec_BoxesMeet.go ht _)).trans ?_ | refine (spec_SideOf.ap_of (spec_SideOf.go ht _)).trans ?_); (try dsimp only at h ⊢))
   | (simp only [decide_not, Bool.decide_and, decide_true, Bool.and_true, Bool.not_and, beqI] at h ⊢)
   | (exfalso; omega))
def spec_l20Pieces.Fs : List (Spc env) := [spec_InBox.spec, spec_MeetsBox.spec]
def spec_l20Pieces.fin : St eΓ → Option (HL eΓ [.l 110 (.st .s110)]) := finR env Try.f97.results.toList [.l 110 (.st .s110)]
def spec_l20Pieces.cut : Nat → Option (List (Lv SC)) := lk [(5, [⟨1, none, false⟩, ⟨3, none, false⟩, ⟨5, none, false⟩, ⟨7, none, false⟩, ⟨8, none, false⟩])]
def spec_l20Pieces.ret (r0 : List S110) : Option (HL eΓ [.l 110 (.st .s110)]) := some (r0, ())
def spec_l20Pieces.p5 (k : Nat) (x8 : Int) (x1 : List S85) (b1_0 : Int) (b1_1 : Int) (b1_2 : Int) (b1_3 : ByteArray) (b2_0 : Int) (b2_1 : Int) (b2_2 : Int) (b2_3 : Int) (x7 : List S110) (b4 : List S82) : Option (HL eΓ [.l 110 (.st .s110)]) := evM env spec_l20Pieces.Fs Try.f97.ntmps spec_l20Pieces.fin spec_l20Pieces.cut k [.code (sub_ [1, 1, 1, 0, 1, 0, 0, 0, 0] (bodyOf Try.f97)), .code (sub_ [1, 1, 1, 0, 1, 0, 0, 0, 1] (bodyOf Try.f97)), .code (sub_ [1, 1, 1, 0, 1, 0, 0, 1] (bodyOf Try.f97)), .lp (sub_ [1, 1, 1, 0, 1, 0, 0] (bodyOf Try.f97)), .blk 0, .code (sub_ [1, 1, 1, 1] (bodyOf Try.f97))] (mkSt [(1, .c (.sl 0)), (3, .c (.ptr 1 0)), (5, .c (.ptr 2 0)), (7, .c (.sl 3)), (8, .c (.v (.int .i64 x8)))] [.row .ro 85 (.st .s85) x1, .box 29 [.v (.int .i64 b1_0), .v (.int .i64 b1_1), .v (.int .i64 b1_2), .v (.string b1_3), .sl 4], .box 98 [.v (.int .i64 b2_0), .v (.int .i64 b2_1), .v (.int .i64 b2_2), .v (.int .i64 b2_3)], .row .own 110 (.st .s110) x7, .row .ro 82 (.st .s82) b4])
theorem spec_l20Pieces.e5 (k : Nat) (x8 : Int) (x1 : List S85) (b1_0 : Int) (b1_1 : Int) (b1_2 : Int) (b1_3 : ByteArray) (b2_0 : Int) (b2_1 : Int) (b2_2 : Int) (b2_3 : Int) (x7 : List S110) (b4 : List S82) : spec_l20Pieces.p5 (k + 1) x8 x1 b1_0 b1_1 b1_2 b1_3 b2_0 b2_1 b2_2 b2_3 x7 b4 = if x8 < (x1.length : Int) then (if 0 ≤ x8 then (if x8 < (x1.length : Int) then (spec_MeetsBox.ap k (⟨(⟨(rd_T85 x1 x8).f0.f0, (rd_T85 x1 x8).f0.f1⟩ : S82), (⟨(rd_T85 x1 x8).f1.f0, (rd_T85 x1 x8).f1.f1⟩ : S82)⟩ : S85) (⟨(⟨b2_0, b2_1⟩ : S82), (⟨b2_2, b2_3⟩ : S82)⟩ : S98) fun r1 => if r1 = true then (if (x7.length + 1) * 16 ≤ 140737488355328 then (spec_l20Pieces.p5 k (wrap64 (x8 + 1)) x1 b1_0 b1_1 b1_2 b1_3 b2_0 b2_1 b2_2 b2_3 (x7 ++ [(⟨b1_0, x8⟩ : S110)]) b4) else none) else (spec_l20Pieces.p5 k (wrap64 (x8 + 1)) x1 b1_0 b1_1 b1_2 b1_3 b2_0 b2_1 b2_2 b2_3 x7 b4)) else none) else none) else (spec_l20Pieces.ret x7) := by kernel_rfl
def spec_l20Pieces.run (k : Nat) (h : HL eΓ [.st .s29, .l 85 (.st .s85), .st .s98]) : Option (HL eΓ [.l 110 (.st .s110)]) := evF env spec_l20Pieces.Fs Try.f97 spec_l20Pieces.cut [.st .s29, .l 85 (.st .s85), .st .s98] [.l 110 (.st .s110)] k h
theorem spec_l20Pieces.ef (k : Nat) (h0 : S29) (h1 : List S85) (h2 : S98) : spec_l20Pieces.run k (h0, h1, h2, ()) = if h0.f1 = 1 then (if 0 < (h0.f4.length : Int) then (spec_InBox.ap k (⟨(⟨h2.f0.f0, h2.f0.f1⟩ : S82), (⟨h2.f1.f0, h2.f1.f1⟩ : S82)⟩ : S98) (⟨(rd_T82 h0.f4 0).f0, (rd_T82 h0.f4 0).f1⟩ : S82) fun r1 => if r1 = true then (spec_l20Pieces.ret ([(⟨h0.f0, 0⟩ : S110)] : List S110)) else (spec_l20Pieces.p5 k 0 h1 h0.f0 h0.f1 h0.f2 h0.f3 h2.f0.f0 h2.f0.f1 h2.f1.f0 h2.f1.f1 ([] : List S110) h0.f4)) else none) else (spec_l20Pieces.p5 k 0 h1 h0.f0 h0.f1 h0.f2 h0.f3 h2.f0.f0 h2.f0.f1 h2.f1.f0 h2.f1.f1 ([] : List S110) h0.f4) := by kernel_rfl
def spec_l20Pieces.toH (t : (List (S110))) : HL eΓ [.l 110 (.st .s110)] := (t, ())
def spec_l20Pieces.spec : Spc env := ⟨97, [.st .s29, .l 85 (.st .s85), .st .s98], [.l 110 (.st .s110)], spec_l20Pieces.run⟩
def spec_l20Pieces.ap {R : Type} (k : Nat) (h0 : S29) (h1 : List S85) (h2 : S98) (K : (List S110) → Option R) : Option R := (spec_l20Pieces.run k (h0, h1, h2, ())).bind fun r => K (r.1 : List S110)
theorem spec_l20Pieces.ap_of {R : Type} {k : Nat} {h0 : S29} {h1 : List S85} {h2 : S98} {r0 : List S110} {K : (List S110) → Option R} (h : spec_l20Pieces.run k (h0, h1, h2, ()) = some (r0, ())) : spec_l20Pieces.ap k h0 h1 h2 K = K r0 := by unfold spec_l20Pieces.ap; rw [h]; rfl
theorem spec_l20Pieces.snd : Snd env spec_l20Pieces.spec := evF_snd env_ok (sndC spec_InBox.snd (sndC spec_MeetsBox.snd (sndN))) (by kernel_rfl) (by kernel_rfl) (by kernel_rfl)
attribute [local irreducible] spec_l20Pieces.run
theorem spec_l20Pieces.rt (a0 : List S110) : spec_l20Pieces.ret a0 = some (spec_l20Pieces.toH (a0)) := rfl
theorem spec_l20Pieces.br (n : Nat) : (∀ K, n ≤ K → ∀ (x8 : Int) (x1 : List S85) (b1_0 : Int) (b1_1 : Int) (b1_2 : Int) (b1_3 : ByteArray) (b2_0 : Int) (b2_1 : Int) (b2_2 : Int) (b2_3 : Int) (x7 : List S110) (b4 : List S82) t, spec_l20Pieces.l0 n x1 x7 x8 b1_0 b1_1 b1_2 b1_3 b4 b2_0 b2_1 b2_2 b2_3 = some t → spec_l20Pieces.p5 K x8 x1 b1_0 b1_1 b1_2 b1_3 b2_0 b2_1 b2_2 b2_3 x7 b4 = some (spec_l20Pieces.toH t)) := by
  induction n using Nat.strongRecOn with
  | _ n ih =>
  intro K hK x8 x1 b1_0 b1_1 b1_2 b1_3 b2_0 b2_1 b2_2 b2_3 x7 b4 t h
  all_goals (rcases n with _ | k)
  all_goals (try (exact nos h))
  all_goals (obtain ⟨K, rfl⟩ : ∃ q, K = q + 1 := ⟨K - 1, by omega⟩)
  all_goals (first | rw [spec_l20Pieces.e5])
  all_goals (simp only [spec_l20Pieces.l0] at h)
  repeat' (with_reducible first
   | exact nos h
   | (cases some_inj h; exact spec_l20Pieces.rt _)
   | exact (ih _ (by omega)) _ (by omega) _ _ _ _ _ _ _ _ _ _ _ _ _ h
   | ((have q : spec_l20Pieces.j0 k _ _ _ _ _ _ _ _ _ _ _ _ = some _ := h; clear q); rcases k with _ | k <;> simp only [spec_l20Pieces.j0, reduceCtorEq] at h)
   | (simp only [Option.bind_some] at h)
   | (refine ite_by h (fun hc h => ?_) (fun hc h => ?_) <;> (try simp only [nrm] at hc))
   | refine itT ?_ (by first | assumption | omega | (simp only [nrm]; first | done | assumption | omega) | (simp only [nln] at hc ⊢; omega))
   | refine itF ?_ (by first | assumption | omega | (simp only [nrm]; first | done | assumption | omega) | (simp only [nln] at hc ⊢; omega))
   | (refine bind_by h (fun t ht h => ?_); (first | refine (spec_InBox.ap_of (spec_InBox.go ht _)).trans ?_ | refine (spec_MeetsBox.ap_of (spec_MeetsBox.go ht _ (by omega))).trans ?_); (try dsimp only at h ⊢))
   | (simp only [decide_not, Bool.decide_and, decide_true, Bool.and_true, Bool.not_and, beqI] at h ⊢)
   | (exfalso; omega))
theorem spec_l20Pieces.go {k : Nat} {a0_0 : Int} {a0_1 : Int} {a0_2 : Int} {a0_3 : ByteArray} {l0_4 : List S82} {l1 : List S85} {a2_0 : Int} {a2_1 : Int} {a2_2 : Int} {a2_3 : Int} {t} (h : spec_l20Pieces.f k a0_0 a0_1 a0_2 a0_3 l0_4 l1 a2_0 a2_1 a2_2 a2_3 = some t) (K : Nat) (hK : k ≤ K) : spec_l20Pieces.run K ((⟨a0_0, a0_1, a0_2, a0_3, l0_4⟩ : S29), l1, (⟨(⟨a2_0, a2_1⟩ : S82), (⟨a2_2, a2_3⟩ : S82)⟩ : S98), ()) = some (spec_l20Pieces.toH t) := by
  rw [spec_l20Pieces.ef]
  (try dsimp only)
  unfold spec_l20Pieces.f at h
  repeat' (with_reducible first
   | exact nos h
   | (cases some_inj h; exact spec_l20Pieces.rt _)
   | exact (spec_l20Pieces.br _) _ (by omega) _ _ _ _ _ _ _ _ _ _ _ _ _ h
   | ((have q : spec_l20Pieces.j0 k _ _ _ _ _ _ _ _ _ _ _ _ = some _ := h; clear q); rcases k with _ | k <;> simp only [spec_l20Pieces.j0, reduceCtorEq] at h)
   | (simp only [Option.bind_some] at h)
   | (refine ite_by h (fun hc h => ?_) (fun hc h => ?_) <;> (try simp only [nrm] at hc))
   | refine itT ?_ (by first | assumption | omega | (simp only [nrm]; first | done | assumption | omega) | (simp only [nln] at hc ⊢; omega))
   | refine itF ?_ (by first | assumption | omega | (simp only [nrm]; first | done | assumption | omega) | (simp only [nln] at hc ⊢; omega))
   | (refine bind_by h (fun t ht h => ?_); (first | refine (spec_InBox.ap_of (spec_InBox.go ht _)).trans ?_ | refine (spec_MeetsBox.ap_of (spec_MeetsBox.go ht _ (by omega))).trans ?_); (try dsimp only at h ⊢))
   | (simp only [decide_not, Bool.decide_and, decide_true, Bool.and_true, Bool.not_and, beqI] at h ⊢)
   | (exfalso; omega))
def spec_PiecesIn.Fs : List (Spc env) := [spec_TileBox.spec, spec_IsSource.spec, spec_PartsOf.spec, spec_l20Pieces.spec]
def spec_PiecesIn.fin : St eΓ → Option (HL eΓ [.l 110 (.st .s110)]) := finR env Try.f52.results.toList [.l 110 (.st .s110)]
def spec_PiecesIn.cut : Nat → Option (List (Lv SC)) := lk [(4, [⟨0, none, false⟩, ⟨5, none, false⟩, ⟨6, none, false⟩, ⟨7, none, false⟩, ⟨8, none, false⟩])]
def spec_PiecesIn.ret (r0 : List S110) : Option (HL eΓ [.l 110 (.st .s110)]) := some (r0, ())
def spec_PiecesIn.p4 (k : Nat) (x7 : Bool) (x8 : Int) (x0 : List S29) (x5 : List S110) (b2_0 : Int) (b2_1 : Int) (b2_2 : Int) (b2_3 : Int) : Option (HL eΓ [.l 110 (.st .s110)]) := evM env spec_PiecesIn.Fs Try.f52.ntmps spec_PiecesIn.fin spec_PiecesIn.cut k [.code (sub_ [1, 1, 1, 0, 1, 0, 0, 0, 0] (bodyOf Try.f52)), .code (sub_ [1, 1, 1, 0, 1, 0, 0, 0, 1] (bodyOf Try.f52)), .code (sub_ [1, 1, 1, 0, 1, 0, 0, 1] (bodyOf Try.f52)), .lp (sub_ [1, 1, 1, 0, 1, 0, 0] (bodyOf Try.f52)), .blk 0, .code (sub_ [1, 1, 1, 1] (bodyOf Try.f52))] (mkSt [(0, .c (.sl 0)), (5, .c (.sl 1)), (6, .c (.ptr 2 0)), (7, .c (.v (.bool x7))), (8, .c (.v (.int .i64 x8)))] [.row .ro 29 (.st .s29) x0, .row .own 110 (.st .s110) x5, .box 98 [.v (.int .i64 b2_0), .v (.int .i64 b2_1), .v (.int .i64 b2_2), .v (.int .i64 b2_3)]])
theorem spec_PiecesIn.e4 (k : Nat) (x7 : Bool) (x8 : Int) (x0 : List S29) (x5 : List S110) (b2_0 : Int) (b2_1 : Int) (b2_2 : Int) (b2_3 : Int) : spec_PiecesIn.p4 (k + 1) x7 x8 x0 x5 b2_0 b2_1 b2_2 b2_3 = if x8 < (x0.length : Int) then (if x7 = true then (spec_IsSource.ap k x0 fun r1 => if r1 = true then (if 0 ≤ x8 then (if x8 < (x0.length : Int) then (if 0 ≤ x8 then (if x8 < (x0.length : Int) then (spec_PartsOf.ap k (⟨(rd_T29 x0 x8).f0, (rd_T29 x0 x8).f1, (rd_T29 x0 x8).f2, (rd_T29 x0 x8).f3, (rd_T29 x0 x8).f4⟩ : S29) fun r2 => spec_l20Pieces.ap k (⟨(rd_T29 x0 x8).f0, (rd_T29 x0 x8).f1, (rd_T29 x0 x8).f2, (rd_T29 x0 x8).f3, (rd_T29 x0 x8).f4⟩ : S29) r2 (⟨(⟨b2_0, b2_1⟩ : S82), (⟨b2_2, b2_3⟩ : S82)⟩ : S98) fun r3 => if (x5.length + r3.length) * 16 ≤ 140737488355328 then (spec_PiecesIn.p4 k x7 (wrap64 (x8 + 1)) x0 (x5 ++ r3) b2_0 b2_1 b2_2 b2_3) else none) else none) else none) else none) else none) else (spec_PiecesIn.ret x5)) else (spec_PiecesIn.ret x5)) else (spec_PiecesIn.ret x5) := by kernel_rfl
def spec_PiecesIn.run (k : Nat) (h : HL eΓ [.l 29 (.st .s29), .i .i64]) : Option (HL eΓ [.l 110 (.st .s110)]) := evF env spec_PiecesIn.Fs Try.f52 spec_PiecesIn.cut [.l 29 (.st .s29), .i .i64] [.l 110 (.st .s110)] k h
theorem spec_PiecesIn.ef (k : Nat) (h0 : List S29) (h1 : Int) : spec_PiecesIn.run k (h0, h1, ()) = spec_TileBox.ap k h1 fun r1_0 r1_1 => spec_PiecesIn.p4 k r1_1 0 h0 ([] : List S110) r1_0.f0.f0 r1_0.f0.f1 r1_0.f1.f0 r1_0.f1.f1 := by kernel_rfl
def spec_PiecesIn.toH (t : (List (S110))) : HL eΓ [.l 110 (.st .s110)] := (t, ())
def spec_PiecesIn.spec : Spc env := ⟨52, [.l 29 (.st .s29), .i .i64], [.l 110 (.st .s110)], spec_PiecesIn.run⟩
def spec_PiecesIn.ap {R : Type} (k : Nat) (h0 : List S29) (h1 : Int) (K : (List S110) → Option R) : Option R := (spec_PiecesIn.run k (h0, h1, ())).bind fun r => K (r.1 : List S110)
theorem spec_PiecesIn.ap_of {R : Type} {k : Nat} {h0 : List S29} {h1 : Int} {r0 : List S110} {K : (List S110) → Option R} (h : spec_PiecesIn.run k (h0, h1, ()) = some (r0, ())) : spec_PiecesIn.ap k h0 h1 K = K r0 := by unfold spec_PiecesIn.ap; rw [h]; rfl
theorem spec_PiecesIn.snd : Snd env spec_PiecesIn.spec := evF_snd env_ok (sndC spec_TileBox.snd (sndC spec_IsSource.snd (sndC spec_PartsOf.snd (sndC spec_l20Pieces.snd (sndN))))) (by kernel_rfl) (by kernel_rfl) (by kernel_rfl)
attribute [local irreducible] spec_PiecesIn.run
theorem spec_PiecesIn.rt (a0 : List S110) : spec_PiecesIn.ret a0 = some (spec_PiecesIn.toH (a0)) := rfl
theorem spec_PiecesIn.br (n : Nat) : (∀ K, n ≤ K → ∀ (x7 : Bool) (x8 : Int) (x0 : List S29) (x5 : List S110) (b2_0 : Int) (b2_1 : Int) (b2_2 : Int) (b2_3 : Int) t, spec_PiecesIn.l0 n x0 x5 x7 x8 b2_0 b2_1 b2_2 b2_3 = some t → spec_PiecesIn.p4 K x7 x8 x0 x5 b2_0 b2_1 b2_2 b2_3 = some (spec_PiecesIn.toH t)) := by
  induction n using Nat.strongRecOn with
  | _ n ih =>
  intro K hK x7 x8 x0 x5 b2_0 b2_1 b2_2 b2_3 t h
  all_goals (rcases n with _ | k)
  all_goals (try (exact nos h))
  all_goals (obtain ⟨K, rfl⟩ : ∃ q, K = q + 1 := ⟨K - 1, by omega⟩)
  all_goals (first | rw [spec_PiecesIn.e4])
  all_goals (simp only [spec_PiecesIn.l0] at h)
  repeat' (with_reducible first
   | exact nos h
   | (cases some_inj h; exact spec_PiecesIn.rt _)
   | exact (ih _ (by omega)) _ (by omega) _ _ _ _ _ _ _ _ _ h
   | ((have q : spec_PiecesIn.j1 k _ _ _ _ _ _ _ _ _ = some _ := h; clear q); rcases k with _ | k <;> simp only [spec_PiecesIn.j1, reduceCtorEq] at h)
   | (simp only [Option.bind_some] at h)
   | (refine ite_by h (fun hc h => ?_) (fun hc h => ?_) <;> (try simp only [nrm] at hc))
   | refine itT ?_ (by first | assumption | omega | (simp only [nrm]; first | done | assumption | omega) | (simp only [nln] at hc ⊢; omega))
   | refine itF ?_ (by first | assumption | omega | (simp only [nrm]; first | done | assumption | omega) | (simp only [nln] at hc ⊢; omega))
   | (refine bind_by h (fun t ht h => ?_); (first | refine (spec_TileBox.ap_of (spec_TileBox.go ht _)).trans ?_ | refine (spec_IsSource.ap_of (spec_IsSource.go ht _ (by omega))).trans ?_ | refine (spec_PartsOf.ap_of (spec_PartsOf.go ht _ (by omega))).trans ?_ | refine (spec_l20Pieces.ap_of (spec_l20Pieces.go ht _ (by omega))).trans ?_); (try dsimp only at h ⊢))
   | (simp only [decide_not, Bool.decide_and, decide_true, Bool.and_true, Bool.not_and, beqI] at h ⊢)
   | (exfalso; omega))
theorem spec_PiecesIn.go {k : Nat} {l0 : List S29} {a1 : Int} {t} (h : spec_PiecesIn.f k l0 a1 = some t) (K : Nat) (hK : k ≤ K) : spec_PiecesIn.run K (l0, a1, ()) = some (spec_PiecesIn.toH t) := by
  rw [spec_PiecesIn.ef]
  (try dsimp only)
  unfold spec_PiecesIn.f at h
  repeat' (with_reducible first
   | exact nos h
   | (cases some_inj h; exact spec_PiecesIn.rt _)
   | exact (spec_PiecesIn.br _) _ (by omega) _ _ _ _ _ _ _ _ _ h
   | ((have q : spec_PiecesIn.j1 k _ _ _ _ _ _ _ _ _ = some _ := h; clear q); rcases k with _ | k <;> simp only [spec_PiecesIn.j1, reduceCtorEq] at h)
   | (simp only [Option.bind_some] at h)
   | (refine ite_by h (fun hc h => ?_) (fun hc h => ?_) <;> (try simp only [nrm] at hc))
   | refine itT ?_ (by first | assumption | omega | (simp only [nrm]; first | done | assumption | omega) | (simp only [nln] at hc ⊢; omega))
   | refine itF ?_ (by first | assumption | omega | (simp only [nrm]; first | done | assumption | omega) | (simp only [nln] at hc ⊢; omega))
   | (refine bind_by h (fun t ht h => ?_); (first | refine (spec_TileBox.ap_of (spec_TileBox.go ht _)).trans ?_ | refine (spec_IsSource.ap_of (spec_IsSource.go ht _ (by omega))).trans ?_ | refine (spec_PartsOf.ap_of (spec_PartsOf.go ht _ (by omega))).trans ?_ | refine (spec_l20Pieces.ap_of (spec_l20Pieces.go ht _ (by omega))).trans ?_); (try dsimp only at h ⊢))
   | (simp only [decide_not, Bool.decide_and, decide_true, Bool.and_true, Bool.not_and, beqI] at h ⊢)
   | (exfalso; omega))
def spec_FindFeature.Fs : List (Spc env) := []
def spec_FindFeature.fin : St eΓ → Option (HL eΓ [.i .i64]) := finR env Try.f90.results.toList [.i .i64]
def spec_FindFeature.cut : Nat → Option (List (Lv SC)) := lk [(2, [⟨0, none, false⟩, ⟨1, none, false⟩, ⟨5, none, false⟩])]
def spec_FindFeature.ret (r0 : Int) : Option (HL eΓ [.i .i64]) := some (r0, ())
def spec_FindFeature.p2 (k : Nat) (x1 : Int) (x5 : Int) (x0 : List S29) : Option (HL eΓ [.i .i64]) := evM env spec_FindFeature.Fs Try.f90.ntmps spec_FindFeature.fin spec_FindFeature.cut k [.code (sub_ [1, 0, 1, 0, 0, 0, 0] (bodyOf Try.f90)), .code (sub_ [1, 0, 1, 0, 0, 0, 1] (bodyOf Try.f90)), .code (sub_ [1, 0, 1, 0, 0, 1] (bodyOf Try.f90)), .lp (sub_ [1, 0, 1, 0, 0] (bodyOf Try.f90)), .blk 0, .code (sub_ [1, 1] (bodyOf Try.f90))] (mkSt [(0, .c (.sl 0)), (1, .c (.v (.int .i64 x1))), (5, .c (.v (.int .i64 x5)))] [.row .ro 29 (.st .s29) x0])
theorem spec_FindFeature.e2 (k : Nat) (x1 : Int) (x5 : Int) (x0 : List S29) : spec_FindFeature.p2 (k + 1) x1 x5 x0 = if x5 < (x0.length : Int) then (if 0 ≤ x5 then (if x5 < (x0.length : Int) then (if ((rd_T29 x0 x5).f0) = x1 then (spec_FindFeature.ret x5) else (spec_FindFeature.p2 k x1 (wrap64 (x5 + 1)) x0)) else none) else none) else (spec_FindFeature.ret (-1)) := by kernel_rfl
def spec_FindFeature.run (k : Nat) (h : HL eΓ [.l 29 (.st .s29), .i .i64]) : Option (HL eΓ [.i .i64]) := evF env spec_FindFeature.Fs Try.f90 spec_FindFeature.cut [.l 29 (.st .s29), .i .i64] [.i .i64] k h
theorem spec_FindFeature.ef (k : Nat) (h0 : List S29) (h1 : Int) : spec_FindFeature.run k (h0, h1, ()) = spec_FindFeature.p2 k h1 0 h0 := by kernel_rfl
def spec_FindFeature.toH (t : Int) : HL eΓ [.i .i64] := (t, ())
def spec_FindFeature.spec : Spc env := ⟨90, [.l 29 (.st .s29), .i .i64], [.i .i64], spec_FindFeature.run⟩
def spec_FindFeature.ap {R : Type} (k : Nat) (h0 : List S29) (h1 : Int) (K : Int → Option R) : Option R := (spec_FindFeature.run k (h0, h1, ())).bind fun r => K (r.1 : Int)
theorem spec_FindFeature.ap_of {R : Type} {k : Nat} {h0 : List S29} {h1 : Int} {r0 : Int} {K : Int → Option R} (h : spec_FindFeature.run k (h0, h1, ()) = some (r0, ())) : spec_FindFeature.ap k h0 h1 K = K r0 := by unfold spec_FindFeature.ap; rw [h]; rfl
theorem spec_FindFeature.snd : Snd env spec_FindFeature.spec := evF_snd env_ok (sndN) (by kernel_rfl) (by kernel_rfl) (by kernel_rfl)
attribute [local irreducible] spec_FindFeature.run
theorem spec_FindFeature.rt (a0 : Int) : spec_FindFeature.ret a0 = some (spec_FindFeature.toH (a0)) := rfl
theorem spec_FindFeature.br (n : Nat) : (∀ K, n ≤ K → ∀ (x1 : Int) (x5 : Int) (x0 : List S29) t, spec_FindFeature.l0 n x0 x1 x5 = some t → spec_FindFeature.p2 K x1 x5 x0 = some (spec_FindFeature.toH t)) := by
  induction n using Nat.strongRecOn with
  | _ n ih =>
  intro K hK x1 x5 x0 t h
  all_goals (rcases n with _ | k)
  all_goals (try (exact nos h))
  all_goals (obtain ⟨K, rfl⟩ : ∃ q, K = q + 1 := ⟨K - 1, by omega⟩)
  all_goals (first | rw [spec_FindFeature.e2])
  all_goals (simp only [spec_FindFeature.l0] at h)
  repeat' (with_reducible first
   | exact nos h
   | (cases some_inj h; exact spec_FindFeature.rt _)
   | exact (ih _ (by omega)) _ (by omega) _ _ _ _ h
   | (simp only [Option.bind_some] at h)
   | (refine ite_by h (fun hc h => ?_) (fun hc h => ?_) <;> (try simp only [nrm] at hc))
   | refine itT ?_ (by first | assumption | omega | (simp only [nrm]; first | done | assumption | omega) | (simp only [nln] at hc ⊢; omega))
   | refine itF ?_ (by first | assumption | omega | (simp only [nrm]; first | done | assumption | omega) | (simp only [nln] at hc ⊢; omega))
   | (simp only [decide_not, Bool.decide_and, decide_true, Bool.and_true, Bool.not_and, beqI] at h ⊢)
   | (exfalso; omega))
theorem spec_FindFeature.go {k : Nat} {l0 : List S29} {a1 : Int} {t} (h : spec_FindFeature.f k l0 a1 = some t) (K : Nat) (hK : k ≤ K) : spec_FindFeature.run K (l0, a1, ()) = some (spec_FindFeature.toH t) := by
  rw [spec_FindFeature.ef]
  (try dsimp only)
  unfold spec_FindFeature.f at h
  repeat' (with_reducible first
   | exact nos h
   | (cases some_inj h; exact spec_FindFeature.rt _)
   | exact (spec_FindFeature.br _) _ (by omega) _ _ _ _ h
   | (simp only [Option.bind_some] at h)
   | (refine ite_by h (fun hc h => ?_) (fun hc h => ?_) <;> (try simp only [nrm] at hc))
   | refine itT ?_ (by first | assumption | omega | (simp only [nrm]; first | done | assumption | omega) | (simp only [nln] at hc ⊢; omega))
   | refine itF ?_ (by first | assumption | omega | (simp only [nrm]; first | done | assumption | omega) | (simp only [nln] at hc ⊢; omega))
   | (simp only [decide_not, Bool.decide_and, decide_true, Bool.and_true, Bool.not_and, beqI] at h ⊢)
   | (exfalso; omega))
def spec_TileDigest.Fs : List (Spc env) := [spec_TileBox.spec, spec_IsSource.spec, spec_PiecesIn.spec, spec_FindFeature.spec, spec_PieceDigest.spec, spec_Hash.spec]
def spec_TileDigest.fin : St eΓ → Option (HL eΓ [.i .i64]) := finR env Try.f54.results.toList [.i .i64]
def spec_TileDigest.cut : Nat → Option (List (Lv SC)) := lk [(7, [⟨0, none, false⟩, ⟨7, none, false⟩, ⟨8, none, false⟩, ⟨9, none, false⟩])]
def spec_TileDigest.ret (r0 : Int) : Option (HL eΓ [.i .i64]) := some (r0, ())
def spec_TileDigest.p7 (k : Nat) (x9 : Int) (x0 : List S29) (x7 : List Int) (x8 : List S110) : Option (HL eΓ [.i .i64]) := evM env spec_TileDigest.Fs Try.f54.ntmps spec_TileDigest.fin spec_TileDigest.cut k [.code (sub_ [1, 1, 1, 1, 1, 0, 1, 0, 0, 0, 0] (bodyOf Try.f54)), .code (sub_ [1, 1, 1, 1, 1, 0, 1, 0, 0, 0, 1] (bodyOf Try.f54)), .code (sub_ [1, 1, 1, 1, 1, 0, 1, 0, 0, 1] (bodyOf Try.f54)), .lp (sub_ [1, 1, 1, 1, 1, 0, 1, 0, 0] (bodyOf Try.f54)), .blk 0, .code (sub_ [1, 1, 1, 1, 1, 1] (bodyOf Try.f54))] (mkSt [(0, .c (.sl 0)), (7, .c (.sl 1)), (8, .c (.sl 2)), (9, .c (.v (.int .i64 x9)))] [.row .ro 29 (.st .s29) x0, .row .own 3 (.i .i64) x7, .row .own 110 (.st .s110) x8])
theorem spec_TileDigest.e7 (k : Nat) (x9 : Int) (x0 : List S29) (x7 : List Int) (x8 : List S110) : spec_TileDigest.p7 (k + 1) x9 x0 x7 x8 = if x9 < (x8.length : Int) then (if 0 ≤ x9 then (if x9 < (x8.length : Int) then (spec_FindFeature.ap k x0 ((rd_T110 x8 x9).f0) fun r1 => if 0 ≤ r1 then (if r1 < (x0.length : Int) then (if 0 ≤ x9 then (if x9 < (x8.length : Int) then (spec_PieceDigest.ap k (⟨(rd_T29 x0 r1).f0, (rd_T29 x0 r1).f1, (rd_T29 x0 r1).f2, (rd_T29 x0 r1).f3, (rd_T29 x0 r1).f4⟩ : S29) ((rd_T110 x8 x9).f1) fun r2 => if (x7.length + 1) * 8 ≤ 140737488355328 then (spec_TileDigest.p7 k (wrap64 (x9 + 1)) x0 (x7 ++ [r2]) x8) else none) else none) else none) else none) else none) else none) else none) else (spec_Hash.ap k x7 fun r3 => spec_TileDigest.ret r3) := by kernel_rfl
def spec_TileDigest.run (k : Nat) (h : HL eΓ [.l 29 (.st .s29), .i .i64]) : Option (HL eΓ [.i .i64]) := evF env spec_TileDigest.Fs Try.f54 spec_TileDigest.cut [.l 29 (.st .s29), .i .i64] [.i .i64] k h
theorem spec_TileDigest.ef (k : Nat) (h0 : List S29) (h1 : Int) : spec_TileDigest.run k (h0, h1, ()) = spec_TileBox.ap k h1 fun r1_0 r1_1 => if (!r1_1) = true then (spec_TileDigest.ret 0) else (spec_IsSource.ap k h0 fun r2 => if (!r2) = true then (spec_TileDigest.ret 0) else (spec_PiecesIn.ap k h0 h1 fun r3 => spec_TileDigest.p7 k 0 h0 ([] : List Int) r3)) := by kernel_rfl
def spec_TileDigest.toH (t : Int) : HL eΓ [.i .i64] := (t, ())
def spec_TileDigest.spec : Spc env := ⟨54, [.l 29 (.st .s29), .i .i64], [.i .i64], spec_TileDigest.run⟩
theorem spec_TileDigest.snd : Snd env spec_TileDigest.spec := evF_snd env_ok (sndC spec_TileBox.snd (sndC spec_IsSource.snd (sndC spec_PiecesIn.snd (sndC spec_FindFeature.snd (sndC spec_PieceDigest.snd (sndC spec_Hash.snd (sndN))))))) (by kernel_rfl) (by kernel_rfl) (by kernel_rfl)
attribute [local irreducible] spec_TileDigest.run
theorem spec_TileDigest.rt (a0 : Int) : spec_TileDigest.ret a0 = some (spec_TileDigest.toH (a0)) := rfl
theorem spec_TileDigest.br (n : Nat) : (∀ K, n ≤ K → ∀ (x9 : Int) (x0 : List S29) (x7 : List Int) (x8 : List S110) t, spec_TileDigest.l0 n x0 x7 x8 x9 = some t → spec_TileDigest.p7 K x9 x0 x7 x8 = some (spec_TileDigest.toH t)) := by
  induction n using Nat.strongRecOn with
  | _ n ih =>
  intro K hK x9 x0 x7 x8 t h
  all_goals (rcases n with _ | k)
  all_goals (try (exact nos h))
  all_goals (obtain ⟨K, rfl⟩ : ∃ q, K = q + 1 := ⟨K - 1, by omega⟩)
  all_goals (first | rw [spec_TileDigest.e7])
  all_goals (simp only [spec_TileDigest.l0] at h)
  repeat' (with_reducible first
   | exact nos h
   | (cases some_inj h; exact spec_TileDigest.rt _)
   | exact (ih _ (by omega)) _ (by omega) _ _ _ _ _ h
   | ((have q : spec_TileDigest.j0 k _ _ _ = some _ := h; clear q); rcases k with _ | k <;> simp only [spec_TileDigest.j0, reduceCtorEq] at h)
   | (simp only [Option.bind_some] at h)
   | (refine ite_by h (fun hc h => ?_) (fun hc h => ?_) <;> (try simp only [nrm] at hc))
   | refine itT ?_ (by first | assumption | omega | (simp only [nrm]; first | done | assumption | omega) | (simp only [nln] at hc ⊢; omega))
   | refine itF ?_ (by first | assumption | omega | (simp only [nrm]; first | done | assumption | omega) | (simp only [nln] at hc ⊢; omega))
   | (refine bind_by h (fun t ht h => ?_); (first | refine (spec_TileBox.ap_of (spec_TileBox.go ht _)).trans ?_ | refine (spec_IsSource.ap_of (spec_IsSource.go ht _ (by omega))).trans ?_ | refine (spec_PiecesIn.ap_of (spec_PiecesIn.go ht _ (by omega))).trans ?_ | refine (spec_FindFeature.ap_of (spec_FindFeature.go ht _ (by omega))).trans ?_ | refine (spec_PieceDigest.ap_of (spec_PieceDigest.go ht _ (by omega))).trans ?_ | refine (spec_Hash.ap_of (spec_Hash.go ht _ (by omega))).trans ?_); (try dsimp only at h ⊢))
   | (simp only [decide_not, Bool.decide_and, decide_true, Bool.and_true, Bool.not_and, beqI] at h ⊢)
   | (exfalso; omega))
theorem spec_TileDigest.go {k : Nat} {l0 : List S29} {a1 : Int} {t} (h : spec_TileDigest.f k l0 a1 = some t) (K : Nat) (hK : k ≤ K) : spec_TileDigest.run K (l0, a1, ()) = some (spec_TileDigest.toH t) := by
  rw [spec_TileDigest.ef]
  (try dsimp only)
  unfold spec_TileDigest.f at h
  repeat' (with_reducible first
   | exact nos h
   | (cases some_inj h; exact spec_TileDigest.rt _)
   | exact (spec_TileDigest.br _) _ (by omega) _ _ _ _ _ h
   | ((have q : spec_TileDigest.j0 k _ _ _ = some _ := h; clear q); rcases k with _ | k <;> simp only [spec_TileDigest.j0, reduceCtorEq] at h)
   | (simp only [Option.bind_some] at h)
   | (refine ite_by h (fun hc h => ?_) (fun hc h => ?_) <;> (try simp only [nrm] at hc))
   | refine itT ?_ (by first | assumption | omega | (simp only [nrm]; first | done | assumption | omega) | (simp only [nln] at hc ⊢; omega))
   | refine itF ?_ (by first | assumption | omega | (simp only [nrm]; first | done | assumption | omega) | (simp only [nln] at hc ⊢; omega))
   | (refine bind_by h (fun t ht h => ?_); (first | refine (spec_TileBox.ap_of (spec_TileBox.go ht _)).trans ?_ | refine (spec_IsSource.ap_of (spec_IsSource.go ht _ (by omega))).trans ?_ | refine (spec_PiecesIn.ap_of (spec_PiecesIn.go ht _ (by omega))).trans ?_ | refine (spec_FindFeature.ap_of (spec_FindFeature.go ht _ (by omega))).trans ?_ | refine (spec_PieceDigest.ap_of (spec_PieceDigest.go ht _ (by omega))).trans ?_ | refine (spec_Hash.ap_of (spec_Hash.go ht _ (by omega))).trans ?_); (try dsimp only at h ⊢))
   | (simp only [decide_not, Bool.decide_and, decide_true, Bool.and_true, Bool.not_and, beqI] at h ⊢)
   | (exfalso; omega))
theorem spec_TileDigest.calls (k : Nat) (A0 : Option Addr) (c0 : Nat) (l0 : List (S29)) (a1 : Int) (r : Int) (w : World) (hr0 : Kd.C k29 w A0 l0.length l0) (hc0 : l0.length ≤ c0) (h : spec_TileDigest.f k l0 a1 = some r) :
  Calls Try.prog 54 #[.slice A0 l0.length c0, .int .i64 a1] w fun e w' => e = .returned (.int .i64 r) ∧ Below w.heap.size w w' := by
  refine (spec_TileDigest.snd.calls _ _ _ (spec_TileDigest.go h k (Nat.le_refl k)) w [.slice A0 l0.length c0, .int .i64 a1] ⟨⟨_, _, rfl, hc0, hr0⟩, rfl, trivial⟩).mono ?_
  rintro e w' ⟨v, rfl, hB, vs, oks, rfl, hR, _⟩
  obtain ⟨x0_, vs, o0_, oks, rfl, rfl, m0_, hR⟩ := rmsC hR
  obtain rfl := rmsN hR
  obtain rfl := List.singleton_inj.1 (show [x0_] = [Value.int .i64 r] from m0_)
  exact ⟨rfl, hB⟩
def impl_InRange.toH (t : Bool) : HL eΓ [.b] := (t, ())
def impl_InRange.run (k : Nat) (h : HL eΓ [.i .i64, .i .i64, .i .i64]) : Option (HL eΓ [.b]) := (impl_InRange.f (h.1 : Int) (h.2.1 : Int) (h.2.2.1 : Int)).map impl_InRange.toH
def impl_InRange.spec : Spc env := ⟨112, [.i .i64, .i .i64, .i .i64], [.b], impl_InRange.run⟩
def impl_InRange.ap {R : Type} (k : Nat) (h0 : Int) (h1 : Int) (h2 : Int) (K : Bool → Option R) : Option R := (impl_InRange.run k (h0, h1, h2, ())).bind fun r => K (r.1 : Bool)
theorem impl_InRange.ap_of {R : Type} {k : Nat} {h0 : Int} {h1 : Int} {h2 : Int} {r0 : Bool} {K : Bool → Option R} (h : impl_InRange.run k (h0, h1, h2, ()) = some (r0, ())) : impl_InRange.ap k h0 h1 h2 K = K r0 := by unfold impl_InRange.ap; rw [h]; rfl
theorem impl_InRange.go {a0 : Int} {a1 : Int} {a2 : Int} {t} (h : impl_InRange.f a0 a1 a2 = some t) (K : Nat) : impl_InRange.run K (a0, a1, a2, ()) = some (impl_InRange.toH t) := by
  show Option.map _ (impl_InRange.f a0 a1 a2) = _
  rw [h]; rfl
theorem impl_InRange.snd : Snd env impl_InRange.spec := ⟨⟨Try.f112, by kernel_rfl, by kernel_rfl, by kernel_rfl⟩, fun k h r he w us hA => by
  obtain ⟨t, ht, rfl⟩ := Option.map_eq_some_iff.1 (show (impl_InRange.f (h.1 : Int) (h.2.1 : Int) (h.2.2.1 : Int)).map impl_InRange.toH = some r from he)
  match us, hA with
  | [u0, u1, u2], ⟨q0, q1, q2, _⟩ =>
  obtain rfl := List.singleton_inj.1 (show [u0] = [Value.int .i64 (h.1 : Int)] from q0)
  obtain rfl := List.singleton_inj.1 (show [u1] = [Value.int .i64 (h.2.1 : Int)] from q1)
  obtain rfl := List.singleton_inj.1 (show [u2] = [Value.int .i64 (h.2.2.1 : Int)] from q2)
  refine (impl_InRange.calls (w := w) (h := ht) ).mono ?_
  rintro e w' ⟨he, hw⟩
  exact ⟨_, he, (by obtain ⟨_, rfl⟩ := hw; exact Below.refl _ _), [.bool t], [fun _ => False], rfl, ⟨rfl, trivial⟩, by simp [DJ]⟩⟩
def impl_around.Fs : List (Spc env) := []
def impl_around.fin : St eΓ → Option (HL eΓ [.l 85 (.st .s85)]) := finR env Try.f150.results.toList [.l 85 (.st .s85)]
def impl_around.cut : Nat → Option (List (Lv SC)) := lk [(3, [⟨0, none, false⟩, ⟨3, none, false⟩, ⟨7, none, false⟩, ⟨8, none, false⟩, ⟨9, none, false⟩])]
def impl_around.ret (r0 : List S85) : Option (HL eΓ [.l 85 (.st .s85)]) := some (r0, ())
def impl_around.p3 (k : Nat) (x8 : Int) (x9 : Int) (x0 : List S82) (x3 : List S85) : Option (HL eΓ [.l 85 (.st .s85)]) := evM env impl_around.Fs Try.f150.ntmps impl_around.fin impl_around.cut k [.code (sub_ [1, 1, 0, 1, 0, 0, 0] (bodyOf Try.f150)), .code (sub_ [1, 1, 0, 1, 0, 0, 1] (bodyOf Try.f150)), .lp (sub_ [1, 1, 0, 1, 0, 0] (bodyOf Try.f150)), .blk 0, .code (sub_ [1, 1, 1] (bodyOf Try.f150))] (mkSt [(0, .c (.sl 0)), (3, .c (.sl 1)), (7, .c (.sl 0)), (8, .c (.v (.int .i64 x8))), (9, .c (.v (.int .i64 x9)))] [.row .ro 82 (.st .s82) x0, .row .own 85 (.st .s85) x3])
theorem impl_around.e3 (k : Nat) (x8 : Int) (x9 : Int) (x0 : List S82) (x3 : List S85) : impl_around.p3 (k + 1) x8 x9 x0 x3 = if x9 < x8 then (if 0 ≤ x9 then (if x9 < (x0.length : Int) then (if (x0.length : Int) = 0 then none else (if 0 ≤ (Int.tmod (wrap64 (x9 + 1)) (x0.length : Int)) then (if (Int.tmod (wrap64 (x9 + 1)) (x0.length : Int)) < (x0.length : Int) then (if (x3.length + 1) * 32 ≤ 140737488355328 then (impl_around.p3 k x8 (wrap64 (x9 + 1)) x0 (x3 ++ [(⟨(⟨(rd_T82 x0 x9).f0, (rd_T82 x0 x9).f1⟩ : S82), (⟨(rd_T82 x0 (Int.tmod (wrap64 (x9 + 1)) (x0.length : Int))).f0, (rd_T82 x0 (Int.tmod (wrap64 (x9 + 1)) (x0.length : Int))).f1⟩ : S82)⟩ : S85)])) else none) else none) else none)) else none) else none) else (impl_around.ret x3) := by kernel_rfl
def impl_around.run (k : Nat) (h : HL eΓ [.l 82 (.st .s82)]) : Option (HL eΓ [.l 85 (.st .s85)]) := evF env impl_around.Fs Try.f150 impl_around.cut [.l 82 (.st .s82)] [.l 85 (.st .s85)] k h
theorem impl_around.ef (k : Nat) (h0 : List S82) : impl_around.run k (h0, ()) = impl_around.p3 k (h0.length : Int) 0 h0 ([] : List S85) := by kernel_rfl
def impl_around.toH (t : (List (S85))) : HL eΓ [.l 85 (.st .s85)] := (t, ())
def impl_around.spec : Spc env := ⟨150, [.l 82 (.st .s82)], [.l 85 (.st .s85)], impl_around.run⟩
def impl_around.ap {R : Type} (k : Nat) (h0 : List S82) (K : (List S85) → Option R) : Option R := (impl_around.run k (h0, ())).bind fun r => K (r.1 : List S85)
theorem impl_around.ap_of {R : Type} {k : Nat} {h0 : List S82} {r0 : List S85} {K : (List S85) → Option R} (h : impl_around.run k (h0, ()) = some (r0, ())) : impl_around.ap k h0 K = K r0 := by unfold impl_around.ap; rw [h]; rfl
theorem impl_around.snd : Snd env impl_around.spec := evF_snd env_ok (sndN) (by kernel_rfl) (by kernel_rfl) (by kernel_rfl)
attribute [local irreducible] impl_around.run
theorem impl_around.rt (a0 : List S85) : impl_around.ret a0 = some (impl_around.toH (a0)) := rfl
theorem impl_around.br (n : Nat) : (∀ K, n ≤ K → ∀ (x8 : Int) (x9 : Int) (x0 : List S82) (x3 : List S85) t, impl_around.l0 n x0 x3 x0 x8 x9 = some t → impl_around.p3 K x8 x9 x0 x3 = some (impl_around.toH t)) := by
  induction n using Nat.strongRecOn with
  | _ n ih =>
  intro K hK x8 x9 x0 x3 t h
  all_goals (rcases n with _ | k)
  all_goals (try (exact nos h))
  all_goals (obtain ⟨K, rfl⟩ : ∃ q, K = q + 1 := ⟨K - 1, by omega⟩)
  all_goals (first | rw [impl_around.e3])
  all_goals (simp only [impl_around.l0] at h)
  repeat' (with_reducible first
   | exact nos h
   | (cases some_inj h; exact impl_around.rt _)
   | exact (ih _ (by omega)) _ (by omega) _ _ _ _ _ h
   | (simp only [Option.bind_some] at h)
   | (refine ite_by h (fun hc h => ?_) (fun hc h => ?_) <;> (try simp only [nrm] at hc))
   | refine itT ?_ (by first | assumption | omega | (simp only [nrm]; first | done | assumption | omega) | (simp only [nln] at hc ⊢; omega))
   | refine itF ?_ (by first | assumption | omega | (simp only [nrm]; first | done | assumption | omega) | (simp only [nln] at hc ⊢; omega))
   | (simp only [decide_not, Bool.decide_and, decide_true, Bool.and_true, Bool.not_and, beqI] at h ⊢)
   | (exfalso; omega))
theorem impl_around.go {k : Nat} {l0 : List S82} {t} (h : impl_around.f k l0 = some t) (K : Nat) (hK : k ≤ K) : impl_around.run K (l0, ()) = some (impl_around.toH t) := by
  rw [impl_around.ef]
  (try dsimp only)
  unfold impl_around.f at h
  repeat' (with_reducible first
   | exact nos h
   | (cases some_inj h; exact impl_around.rt _)
   | exact (impl_around.br _) _ (by omega) _ _ _ _ _ h
   | (simp only [Option.bind_some] at h)
   | (refine ite_by h (fun hc h => ?_) (fun hc h => ?_) <;> (try simp only [nrm] at hc))
   | refine itT ?_ (by first | assumption | omega | (simp only [nrm]; first | done | assumption | omega) | (simp only [nln] at hc ⊢; omega))
   | refine itF ?_ (by first | assumption | omega | (simp only [nrm]; first | done | assumption | omega) | (simp only [nln] at hc ⊢; omega))
   | (simp only [decide_not, Bool.decide_and, decide_true, Bool.and_true, Bool.not_and, beqI] at h ⊢)
   | (exfalso; omega))
def impl_IsPoint.toH (t : Bool) : HL eΓ [.b] := (t, ())
def impl_IsPoint.run (k : Nat) (h : HL eΓ [.st .s82]) : Option (HL eΓ [.b]) := (impl_IsPoint.f ((h.1 : S82).f0) ((h.1 : S82).f1)).map impl_IsPoint.toH
def impl_IsPoint.spec : Spc env := ⟨123, [.st .s82], [.b], impl_IsPoint.run⟩
def impl_IsPoint.ap {R : Type} (k : Nat) (h0 : S82) (K : Bool → Option R) : Option R := (impl_IsPoint.run k (h0, ())).bind fun r => K (r.1 : Bool)
theorem impl_IsPoint.ap_of {R : Type} {k : Nat} {h0 : S82} {r0 : Bool} {K : Bool → Option R} (h : impl_IsPoint.run k (h0, ()) = some (r0, ())) : impl_IsPoint.ap k h0 K = K r0 := by unfold impl_IsPoint.ap; rw [h]; rfl
theorem impl_IsPoint.go {a0_0 : Int} {a0_1 : Int} {t} (h : impl_IsPoint.f a0_0 a0_1 = some t) (K : Nat) : impl_IsPoint.run K ((⟨a0_0, a0_1⟩ : S82), ()) = some (impl_IsPoint.toH t) := by
  show Option.map _ (impl_IsPoint.f a0_0 a0_1) = _
  rw [h]; rfl
theorem impl_IsPoint.snd : Snd env impl_IsPoint.spec := ⟨⟨Try.f123, by kernel_rfl, by kernel_rfl, by kernel_rfl⟩, fun k h r he w us hA => by
  obtain ⟨t, ht, rfl⟩ := Option.map_eq_some_iff.1 (show (impl_IsPoint.f ((h.1 : S82).f0) ((h.1 : S82).f1)).map impl_IsPoint.toH = some r from he)
  match us, hA with
  | [u0], ⟨q0, _⟩ =>
  obtain ⟨v0, rfl, q0⟩ := q0
  have q0 := (H82.K _ _ _).1 q0
  match e0 : v0.toList, q0 with
  | [c0_0, c0_1], ⟨p0_0, p0_1, _⟩ =>
  obtain rfl : v0 = #[c0_0, c0_1] := by rw [← Array.toArray_toList (xs := v0), e0]
  obtain rfl := List.singleton_inj.1 (show [c0_0] = [Value.int .i64 ((h.1 : S82).f0)] from p0_0)
  obtain rfl := List.singleton_inj.1 (show [c0_1] = [Value.int .i64 ((h.1 : S82).f1)] from p0_1)
  refine (impl_IsPoint.calls (w := w) (h := ht) ).mono ?_
  rintro e w' ⟨he, hw⟩
  exact ⟨_, he, hw, [.bool t], [fun _ => False], rfl, ⟨rfl, trivial⟩, by simp [DJ]⟩⟩
def impl_IsSegment.toH (t : Bool) : HL eΓ [.b] := (t, ())
def impl_IsSegment.run (k : Nat) (h : HL eΓ [.st .s85]) : Option (HL eΓ [.b]) := (impl_IsSegment.f ((h.1 : S85).f0.f0) ((h.1 : S85).f0.f1) ((h.1 : S85).f1.f0) ((h.1 : S85).f1.f1)).map impl_IsSegment.toH
def impl_IsSegment.spec : Spc env := ⟨151, [.st .s85], [.b], impl_IsSegment.run⟩
def impl_IsSegment.ap {R : Type} (k : Nat) (h0 : S85) (K : Bool → Option R) : Option R := (impl_IsSegment.run k (h0, ())).bind fun r => K (r.1 : Bool)
theorem impl_IsSegment.ap_of {R : Type} {k : Nat} {h0 : S85} {r0 : Bool} {K : Bool → Option R} (h : impl_IsSegment.run k (h0, ()) = some (r0, ())) : impl_IsSegment.ap k h0 K = K r0 := by unfold impl_IsSegment.ap; rw [h]; rfl
theorem impl_IsSegment.go {a0_0 : Int} {a0_1 : Int} {a0_2 : Int} {a0_3 : Int} {t} (h : impl_IsSegment.f a0_0 a0_1 a0_2 a0_3 = some t) (K : Nat) : impl_IsSegment.run K ((⟨(⟨a0_0, a0_1⟩ : S82), (⟨a0_2, a0_3⟩ : S82)⟩ : S85), ()) = some (impl_IsSegment.toH t) := by
  show Option.map _ (impl_IsSegment.f a0_0 a0_1 a0_2 a0_3) = _
  rw [h]; rfl
theorem impl_IsSegment.snd : Snd env impl_IsSegment.spec := ⟨⟨Try.f151, by kernel_rfl, by kernel_rfl, by kernel_rfl⟩, fun k h r he w us hA => by
  obtain ⟨t, ht, rfl⟩ := Option.map_eq_some_iff.1 (show (impl_IsSegment.f ((h.1 : S85).f0.f0) ((h.1 : S85).f0.f1) ((h.1 : S85).f1.f0) ((h.1 : S85).f1.f1)).map impl_IsSegment.toH = some r from he)
  match us, hA with
  | [u0], ⟨q0, _⟩ =>
  obtain ⟨v0, rfl, q0⟩ := q0
  have q0 := (H85.K _ _ _).1 q0
  match e0 : v0.toList, q0 with
  | [c0_0, c0_1, c0_2, c0_3], ⟨p0_0, p0_1, p0_2, p0_3, _⟩ =>
  obtain rfl : v0 = #[c0_0, c0_1, c0_2, c0_3] := by rw [← Array.toArray_toList (xs := v0), e0]
  obtain rfl := List.singleton_inj.1 (show [c0_0] = [Value.int .i64 ((h.1 : S85).f0.f0)] from p0_0)
  obtain rfl := List.singleton_inj.1 (show [c0_1] = [Value.int .i64 ((h.1 : S85).f0.f1)] from p0_1)
  obtain rfl := List.singleton_inj.1 (show [c0_2] = [Value.int .i64 ((h.1 : S85).f1.f0)] from p0_2)
  obtain rfl := List.singleton_inj.1 (show [c0_3] = [Value.int .i64 ((h.1 : S85).f1.f1)] from p0_3)
  refine (impl_IsSegment.calls (w := w) (h := ht) ).mono ?_
  rintro e w' ⟨he, hw⟩
  exact ⟨_, he, hw, [.bool t], [fun _ => False], rfl, ⟨rfl, trivial⟩, by simp [DJ]⟩⟩
def impl_SideOf.toH (t : Int) : HL eΓ [.i .i64] := (t, ())
def impl_SideOf.run (k : Nat) (h : HL eΓ [.st .s82, .st .s82, .st .s82]) : Option (HL eΓ [.i .i64]) := (impl_SideOf.f ((h.1 : S82).f0) ((h.1 : S82).f1) ((h.2.1 : S82).f0) ((h.2.1 : S82).f1) ((h.2.2.1 : S82).f0) ((h.2.2.1 : S82).f1)).map impl_SideOf.toH
def impl_SideOf.spec : Spc env := ⟨167, [.st .s82, .st .s82, .st .s82], [.i .i64], impl_SideOf.run⟩
def impl_SideOf.ap {R : Type} (k : Nat) (h0 : S82) (h1 : S82) (h2 : S82) (K : Int → Option R) : Option R := (impl_SideOf.run k (h0, h1, h2, ())).bind fun r => K (r.1 : Int)
theorem impl_SideOf.ap_of {R : Type} {k : Nat} {h0 : S82} {h1 : S82} {h2 : S82} {r0 : Int} {K : Int → Option R} (h : impl_SideOf.run k (h0, h1, h2, ()) = some (r0, ())) : impl_SideOf.ap k h0 h1 h2 K = K r0 := by unfold impl_SideOf.ap; rw [h]; rfl
theorem impl_SideOf.go {a0_0 : Int} {a0_1 : Int} {a1_0 : Int} {a1_1 : Int} {a2_0 : Int} {a2_1 : Int} {t} (h : impl_SideOf.f a0_0 a0_1 a1_0 a1_1 a2_0 a2_1 = some t) (K : Nat) : impl_SideOf.run K ((⟨a0_0, a0_1⟩ : S82), (⟨a1_0, a1_1⟩ : S82), (⟨a2_0, a2_1⟩ : S82), ()) = some (impl_SideOf.toH t) := by
  show Option.map _ (impl_SideOf.f a0_0 a0_1 a1_0 a1_1 a2_0 a2_1) = _
  rw [h]; rfl
theorem impl_SideOf.snd : Snd env impl_SideOf.spec := ⟨⟨Try.f167, by kernel_rfl, by kernel_rfl, by kernel_rfl⟩, fun k h r he w us hA => by
  obtain ⟨t, ht, rfl⟩ := Option.map_eq_some_iff.1 (show (impl_SideOf.f ((h.1 : S82).f0) ((h.1 : S82).f1) ((h.2.1 : S82).f0) ((h.2.1 : S82).f1) ((h.2.2.1 : S82).f0) ((h.2.2.1 : S82).f1)).map impl_SideOf.toH = some r from he)
  match us, hA with
  | [u0, u1, u2], ⟨q0, q1, q2, _⟩ =>
  obtain ⟨v0, rfl, q0⟩ := q0
  have q0 := (H82.K _ _ _).1 q0
  match e0 : v0.toList, q0 with
  | [c0_0, c0_1], ⟨p0_0, p0_1, _⟩ =>
  obtain rfl : v0 = #[c0_0, c0_1] := by rw [← Array.toArray_toList (xs := v0), e0]
  obtain rfl := List.singleton_inj.1 (show [c0_0] = [Value.int .i64 ((h.1 : S82).f0)] from p0_0)
  obtain rfl := List.singleton_inj.1 (show [c0_1] = [Value.int .i64 ((h.1 : S82).f1)] from p0_1)
  obtain ⟨v1, rfl, q1⟩ := q1
  have q1 := (H82.K _ _ _).1 q1
  match e1 : v1.toList, q1 with
  | [c1_0, c1_1], ⟨p1_0, p1_1, _⟩ =>
  obtain rfl : v1 = #[c1_0, c1_1] := by rw [← Array.toArray_toList (xs := v1), e1]
  obtain rfl := List.singleton_inj.1 (show [c1_0] = [Value.int .i64 ((h.2.1 : S82).f0)] from p1_0)
  obtain rfl := List.singleton_inj.1 (show [c1_1] = [Value.int .i64 ((h.2.1 : S82).f1)] from p1_1)
  obtain ⟨v2, rfl, q2⟩ := q2
  have q2 := (H82.K _ _ _).1 q2
  match e2 : v2.toList, q2 with
  | [c2_0, c2_1], ⟨p2_0, p2_1, _⟩ =>
  obtain rfl : v2 = #[c2_0, c2_1] := by rw [← Array.toArray_toList (xs := v2), e2]
  obtain rfl := List.singleton_inj.1 (show [c2_0] = [Value.int .i64 ((h.2.2.1 : S82).f0)] from p2_0)
  obtain rfl := List.singleton_inj.1 (show [c2_1] = [Value.int .i64 ((h.2.2.1 : S82).f1)] from p2_1)
  refine (impl_SideOf.calls (w := w) (h := ht) ).mono ?_
  rintro e w' ⟨he, hw⟩
  exact ⟨_, he, hw, [.int .i64 t], [fun _ => False], rfl, ⟨rfl, trivial⟩, by simp [DJ]⟩⟩
def impl_BeforePoint.toH (t : Bool) : HL eΓ [.b] := (t, ())
def impl_BeforePoint.run (k : Nat) (h : HL eΓ [.st .s82, .st .s82]) : Option (HL eΓ [.b]) := (impl_BeforePoint.f ((h.1 : S82).f0) ((h.1 : S82).f1) ((h.2.1 : S82).f0) ((h.2.1 : S82).f1)).map impl_BeforePoint.toH
def impl_BeforePoint.spec : Spc env := ⟨170, [.st .s82, .st .s82], [.b], impl_BeforePoint.run⟩
def impl_BeforePoint.ap {R : Type} (k : Nat) (h0 : S82) (h1 : S82) (K : Bool → Option R) : Option R := (impl_BeforePoint.run k (h0, h1, ())).bind fun r => K (r.1 : Bool)
theorem impl_BeforePoint.ap_of {R : Type} {k : Nat} {h0 : S82} {h1 : S82} {r0 : Bool} {K : Bool → Option R} (h : impl_BeforePoint.run k (h0, h1, ()) = some (r0, ())) : impl_BeforePoint.ap k h0 h1 K = K r0 := by unfold impl_BeforePoint.ap; rw [h]; rfl
theorem impl_BeforePoint.go {a0_0 : Int} {a0_1 : Int} {a1_0 : Int} {a1_1 : Int} {t} (h : impl_BeforePoint.f a0_0 a0_1 a1_0 a1_1 = some t) (K : Nat) : impl_BeforePoint.run K ((⟨a0_0, a0_1⟩ : S82), (⟨a1_0, a1_1⟩ : S82), ()) = some (impl_BeforePoint.toH t) := by
  show Option.map _ (impl_BeforePoint.f a0_0 a0_1 a1_0 a1_1) = _
  rw [h]; rfl
theorem impl_BeforePoint.snd : Snd env impl_BeforePoint.spec := ⟨⟨Try.f170, by kernel_rfl, by kernel_rfl, by kernel_rfl⟩, fun k h r he w us hA => by
  obtain ⟨t, ht, rfl⟩ := Option.map_eq_some_iff.1 (show (impl_BeforePoint.f ((h.1 : S82).f0) ((h.1 : S82).f1) ((h.2.1 : S82).f0) ((h.2.1 : S82).f1)).map impl_BeforePoint.toH = some r from he)
  match us, hA with
  | [u0, u1], ⟨q0, q1, _⟩ =>
  obtain ⟨v0, rfl, q0⟩ := q0
  have q0 := (H82.K _ _ _).1 q0
  match e0 : v0.toList, q0 with
  | [c0_0, c0_1], ⟨p0_0, p0_1, _⟩ =>
  obtain rfl : v0 = #[c0_0, c0_1] := by rw [← Array.toArray_toList (xs := v0), e0]
  obtain rfl := List.singleton_inj.1 (show [c0_0] = [Value.int .i64 ((h.1 : S82).f0)] from p0_0)
  obtain rfl := List.singleton_inj.1 (show [c0_1] = [Value.int .i64 ((h.1 : S82).f1)] from p0_1)
  obtain ⟨v1, rfl, q1⟩ := q1
  have q1 := (H82.K _ _ _).1 q1
  match e1 : v1.toList, q1 with
  | [c1_0, c1_1], ⟨p1_0, p1_1, _⟩ =>
  obtain rfl : v1 = #[c1_0, c1_1] := by rw [← Array.toArray_toList (xs := v1), e1]
  obtain rfl := List.singleton_inj.1 (show [c1_0] = [Value.int .i64 ((h.2.1 : S82).f0)] from p1_0)
  obtain rfl := List.singleton_inj.1 (show [c1_1] = [Value.int .i64 ((h.2.1 : S82).f1)] from p1_1)
  refine (impl_BeforePoint.calls (w := w) (h := ht) ).mono ?_
  rintro e w' ⟨he, hw⟩
  exact ⟨_, he, hw, [.bool t], [fun _ => False], rfl, ⟨rfl, trivial⟩, by simp [DJ]⟩⟩
def impl_TurnSegment.Fs : List (Spc env) := []
def impl_TurnSegment.cut : Nat → Option (List (Lv SC)) := lk []
def impl_TurnSegment.ret (r0 : S85) : Option (HL eΓ [.st .s85]) := some (r0, ())
def impl_TurnSegment.run (k : Nat) (h : HL eΓ [.st .s85]) : Option (HL eΓ [.st .s85]) := evF env impl_TurnSegment.Fs Try.f174 impl_TurnSegment.cut [.st .s85] [.st .s85] k h
theorem impl_TurnSegment.ef (k : Nat) (h0 : S85) : impl_TurnSegment.run k (h0, ()) = impl_TurnSegment.ret (⟨(⟨h0.f1.f0, h0.f1.f1⟩ : S82), (⟨h0.f0.f0, h0.f0.f1⟩ : S82)⟩ : S85) := by kernel_rfl
def impl_TurnSegment.toH (t : Int × Int × Int × Int) : HL eΓ [.st .s85] := ((⟨(⟨t.1, t.2.1⟩ : S82), (⟨t.2.2.1, t.2.2.2⟩ : S82)⟩ : S85), ())
def impl_TurnSegment.spec : Spc env := ⟨174, [.st .s85], [.st .s85], impl_TurnSegment.run⟩
def impl_TurnSegment.ap {R : Type} (k : Nat) (h0 : S85) (K : S85 → Option R) : Option R := (impl_TurnSegment.run k (h0, ())).bind fun r => K (r.1 : S85)
theorem impl_TurnSegment.ap_of {R : Type} {k : Nat} {h0 : S85} {r0 : S85} {K : S85 → Option R} (h : impl_TurnSegment.run k (h0, ()) = some (r0, ())) : impl_TurnSegment.ap k h0 K = K r0 := by unfold impl_TurnSegment.ap; rw [h]; rfl
theorem impl_TurnSegment.snd : Snd env impl_TurnSegment.spec := evF_snd env_ok (sndN) (by kernel_rfl) (by kernel_rfl) (by kernel_rfl)
attribute [local irreducible] impl_TurnSegment.run
theorem impl_TurnSegment.rt (a0 : Int) (a1 : Int) (a2 : Int) (a3 : Int) : impl_TurnSegment.ret (⟨(⟨a0, a1⟩ : S82), (⟨a2, a3⟩ : S82)⟩ : S85) = some (impl_TurnSegment.toH (a0, a1, a2, a3)) := rfl
theorem impl_TurnSegment.go {a0_0 : Int} {a0_1 : Int} {a0_2 : Int} {a0_3 : Int} {t} (h : impl_TurnSegment.f a0_0 a0_1 a0_2 a0_3 = some t) (K : Nat) : impl_TurnSegment.run K ((⟨(⟨a0_0, a0_1⟩ : S82), (⟨a0_2, a0_3⟩ : S82)⟩ : S85), ()) = some (impl_TurnSegment.toH t) := by
  rw [impl_TurnSegment.ef]
  (try dsimp only)
  unfold impl_TurnSegment.f at h
  repeat' (with_reducible first
   | exact nos h
   | (cases some_inj h; exact impl_TurnSegment.rt _ _ _ _)
   | (simp only [Option.bind_some] at h)
   | (refine ite_by h (fun hc h => ?_) (fun hc h => ?_) <;> (try simp only [nrm] at hc))
   | refine itT ?_ (by first | assumption | omega | (simp only [nrm]; first | done | assumption | omega) | (simp only [nln] at hc ⊢; omega))
   | refine itF ?_ (by first | assumption | omega | (simp only [nrm]; first | done | assumption | omega) | (simp only [nln] at hc ⊢; omega))
   | (simp only [decide_not, Bool.decide_and, decide_true, Bool.and_true, Bool.not_and, beqI] at h ⊢)
   | (exfalso; omega))
def impl_forward.Fs : List (Spc env) := [impl_BeforePoint.spec, impl_TurnSegment.spec]
def impl_forward.cut : Nat → Option (List (Lv SC)) := lk []
def impl_forward.ret (r0 : S85) : Option (HL eΓ [.st .s85]) := some (r0, ())
def impl_forward.run (k : Nat) (h : HL eΓ [.st .s85]) : Option (HL eΓ [.st .s85]) := evF env impl_forward.Fs Try.f169 impl_forward.cut [.st .s85] [.st .s85] k h
theorem impl_forward.ef (k : Nat) (h0 : S85) : impl_forward.run k (h0, ()) = impl_BeforePoint.ap k (⟨h0.f1.f0, h0.f1.f1⟩ : S82) (⟨h0.f0.f0, h0.f0.f1⟩ : S82) fun r1 => if r1 = true then (impl_TurnSegment.ap k (⟨(⟨h0.f0.f0, h0.f0.f1⟩ : S82), (⟨h0.f1.f0, h0.f1.f1⟩ : S82)⟩ : S85) fun r2 => impl_forward.ret (⟨(⟨r2.f0.f0, r2.f0.f1⟩ : S82), (⟨r2.f1.f0, r2.f1.f1⟩ : S82)⟩ : S85)) else (impl_forward.ret (⟨(⟨h0.f0.f0, h0.f0.f1⟩ : S82), (⟨h0.f1.f0, h0.f1.f1⟩ : S82)⟩ : S85)) := by kernel_rfl
def impl_forward.toH (t : Int × Int × Int × Int) : HL eΓ [.st .s85] := ((⟨(⟨t.1, t.2.1⟩ : S82), (⟨t.2.2.1, t.2.2.2⟩ : S82)⟩ : S85), ())
def impl_forward.spec : Spc env := ⟨169, [.st .s85], [.st .s85], impl_forward.run⟩
theorem impl_forward.snd : Snd env impl_forward.spec := evF_snd env_ok (sndC impl_BeforePoint.snd (sndC impl_TurnSegment.snd (sndN))) (by kernel_rfl) (by kernel_rfl) (by kernel_rfl)
attribute [local irreducible] impl_forward.run
theorem impl_forward.rt (a0 : Int) (a1 : Int) (a2 : Int) (a3 : Int) : impl_forward.ret (⟨(⟨a0, a1⟩ : S82), (⟨a2, a3⟩ : S82)⟩ : S85) = some (impl_forward.toH (a0, a1, a2, a3)) := rfl
theorem impl_forward.go {a0_0 : Int} {a0_1 : Int} {a0_2 : Int} {a0_3 : Int} {t} (h : impl_forward.f a0_0 a0_1 a0_2 a0_3 = some t) (K : Nat) : impl_forward.run K ((⟨(⟨a0_0, a0_1⟩ : S82), (⟨a0_2, a0_3⟩ : S82)⟩ : S85), ()) = some (impl_forward.toH t) := by
  rw [impl_forward.ef]
  (try dsimp only)
  unfold impl_forward.f at h
  repeat' (with_reducible first
   | exact nos h
   | (cases some_inj h; exact impl_forward.rt _ _ _ _)
   | (simp only [Option.bind_some] at h)
   | (refine ite_by h (fun hc h => ?_) (fun hc h => ?_) <;> (try simp only [nrm] at hc))
   | refine itT ?_ (by first | assumption | omega | (simp only [nrm]; first | done | assumption | omega) | (simp only [nln] at hc ⊢; omega))
   | refine itF ?_ (by first | assumption | omega | (simp only [nrm]; first | done | assumption | omega) | (simp only [nln] at hc ⊢; omega))
   | (refine bind_by h (fun t ht h => ?_); (first | refine (impl_BeforePoint.ap_of (impl_BeforePoint.go ht _)).trans ?_ | refine (impl_TurnSegment.ap_of (impl_TurnSegment.go ht _)).trans ?_); (try dsimp only at h ⊢))
   | (simp only [decide_not, Bool.decide_and, decide_true, Bool.and_true, Bool.not_and, beqI] at h ⊢)
   | (exfalso; omega))
theorem impl_forward.calls (a0_0 : Int) (a0_1 : Int) (a0_2 : Int) (a0_3 : Int) (r1 : Int) (r2 : Int) (r3 : Int) (r4 : Int) (w : World) (h : impl_forward.f a0_0 a0_1 a0_2 a0_3 = some (r1, r2, r3, r4)) :
  Calls Try.prog 169 #[.agg #[.int .i64 a0_0, .int .i64 a0_1, .int .i64 a0_2, .int .i64 a0_3]] w fun e w' => e = .returned (.agg #[.int .i64 r1, .int .i64 r2, .int .i64 r3, .int .i64 r4]) ∧ Below w.heap.size w w' := by
  refine (impl_forward.snd.calls _ _ _ (impl_forward.go h 0) w [.agg #[.int .i64 a0_0, .int .i64 a0_1, .int .i64 a0_2, .int .i64 a0_3]] ⟨⟨_, rfl, (H85.K _ _ _).2 ⟨rfl, rfl, rfl, rfl, trivial⟩⟩, trivial⟩).mono ?_
  rintro e w' ⟨v, rfl, hB, vs, oks, rfl, hR, _⟩
  obtain ⟨x0_, vs, o0_, oks, rfl, rfl, m0_, hR⟩ := rmsC hR
  obtain rfl := rmsN hR
  obtain ⟨y0, rfl, m0_⟩ := m0_
  have m0_ := (H85.M _ _ _ _ _).1 m0_
  match e0 : y0.toList, m0_ with
  | [d0_0, d0_1, d0_2, d0_3], ⟨n0_0, n0_1, n0_2, n0_3, _⟩ =>
  obtain rfl : y0 = #[d0_0, d0_1, d0_2, d0_3] := by rw [← Array.toArray_toList (xs := y0), e0]
  obtain rfl := List.singleton_inj.1 (show [d0_0] = [Value.int .i64 r1] from n0_0)
  obtain rfl := List.singleton_inj.1 (show [d0_1] = [Value.int .i64 r2] from n0_1)
  obtain rfl := List.singleton_inj.1 (show [d0_2] = [Value.int .i64 r3] from n0_2)
  obtain rfl := List.singleton_inj.1 (show [d0_3] = [Value.int .i64 r4] from n0_3)
  exact ⟨rfl, hB⟩
end
end Go.Proofs.Ytdfehjfmihokpaa.PFnExactTileDigest
