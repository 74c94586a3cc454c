-- Written by a program of this session's (evlaw.py).
import Derived.Test.YtdfehjfmihokpaaPFnExactPiecesInx2
namespace Go.Proofs.Ytdfehjfmihokpaa.PFnExactPiecesIn
open Go.RowKit Go.Proofs.YtdfehjfmihokpaaW.PrintWords Go.Proofs.YtdfehjfmihokpaaW.PrintLast Go.Proofs.YtdfehjfmihokpaaW.PrintMore Go.Proofs.YtdfehjfmihokpaaGeo Go.Proofs.YtdfehjfmihokpaaHand Go.Proofs.YtdfehjfmihokpaaMeet Go.Proofs.YtdfehjfmihokpaaQuiet Go.Proofs.YtdfehjfmihokpaaZ Go.Proofs.YtdfehjfmihokpaaTwo
open Go Go.Proofs.YtdfehjfmihokpaaEv
attribute [local go_sem] max2_int min2_int max_two min_two max_three min_three max_four min_four   -- for this text's walks alone
set_option linter.unusedVariables false
set_option linter.unusedSimpArgs false



set_option linter.unusedSimpArgs false

attribute [local go_sem high] eqA82
set_option linter.unusedVariables false
set_option linter.unusedSimpArgs false
set_option maxRecDepth 100000
noncomputable section
def spec_IsSource.p2 (k : Nat) (x3 : Int) (x0 : List S29) : Option (HL eΓ [.b]) := evM env spec_IsSource.Fs Try.f83.ntmps spec_IsSource.fin spec_IsSource.cut k [.code (sub_ [1, 0, 1, 0, 0, 0, 0] (bodyOf Try.f83)), .code (sub_ [1, 0, 1, 0, 0, 0, 1] (bodyOf Try.f83)), .code (sub_ [1, 0, 1, 0, 0, 1] (bodyOf Try.f83)), .lp (sub_ [1, 0, 1, 0, 0] (bodyOf Try.f83)), .blk 0, .code (sub_ [1, 1] (bodyOf Try.f83))] (mkSt [(0, .c (.sl 0)), (3, .c (.v (.int .i64 x3)))] [.row .ro 29 (.st .s29) x0])
theorem spec_IsSource.e2 (k : Nat) (x3 : Int) (x0 : List S29) : spec_IsSource.p2 (k + 1) x3 x0 = if x3 < (x0.length : Int) then (if 0 ≤ x3 then (if x3 < (x0.length : Int) then (spec_IsFeature.ap k (⟨(rd_T29 x0 x3).f0, (rd_T29 x0 x3).f1, (rd_T29 x0 x3).f2, (rd_T29 x0 x3).f3, (rd_T29 x0 x3).f4⟩ : S29) fun r1 => if (!r1) = true then (spec_IsSource.ret false) else (if x3 > 0 then (if 0 ≤ (wrap64 (x3 - 1)) then (if (wrap64 (x3 - 1)) < (x0.length : Int) then (if 0 ≤ x3 then (if x3 < (x0.length : Int) then (if ((rd_T29 x0 (wrap64 (x3 - 1))).f0) ≥ ((rd_T29 x0 x3).f0) then (spec_IsSource.ret false) else (spec_IsSource.p2 k (wrap64 (x3 + 1)) x0)) else none) else none) else none) else none) else (spec_IsSource.p2 k (wrap64 (x3 + 1)) x0))) else none) else none) else (spec_IsSource.ret (decide ((x0.length : Int) ≤ 16))) := by kernel_rfl
def spec_IsSource.run (k : Nat) (h : HL eΓ [.l 29 (.st .s29)]) : Option (HL eΓ [.b]) := evF env spec_IsSource.Fs Try.f83 spec_IsSource.cut [.l 29 (.st .s29)] [.b] k h
theorem spec_IsSource.ef (k : Nat) (h0 : List S29) : spec_IsSource.run k (h0, ()) = spec_IsSource.p2 k 0 h0 := by kernel_rfl
def spec_IsSource.toH (t : Bool) : HL eΓ [.b] := (t, ())
def spec_IsSource.spec : Spc env := ⟨83, [.l 29 (.st .s29)], [.b], spec_IsSource.run⟩
def spec_IsSource.ap {R : Type} (k : Nat) (h0 : List S29) (K : Bool → Option R) : Option R := (spec_IsSource.run k (h0, ())).bind fun r => K (r.1 : Bool)
theorem spec_IsSource.ap_of {R : Type} {k : Nat} {h0 : List S29} {r0 : Bool} {K : Bool → Option R} (h : spec_IsSource.run k (h0, ()) = some (r0, ())) : spec_IsSource.ap k h0 K = K r0 := by unfold spec_IsSource.ap; rw [h]; rfl
theorem spec_IsSource.snd : Snd env spec_IsSource.spec := evF_snd env_ok (sndC spec_IsFeature.snd (sndN)) (by kernel_rfl) (by kernel_rfl) (by kernel_rfl)
attribute [local irreducible] spec_IsSource.run
theorem spec_IsSource.rt (a0 : Bool) : spec_IsSource.ret a0 = some (spec_IsSource.toH (a0)) := rfl
theorem spec_IsSource.br (n : Nat) : (∀ K, n ≤ K → ∀ (x3 : Int) (x0 : List S29) t, spec_IsSource.l0 n x0 x3 = some t → spec_IsSource.p2 K x3 x0 = some (spec_IsSource.toH t)) := by
  induction n using Nat.strongRecOn with
  | _ n ih =>
  intro K hK x3 x0 t h
  all_goals (rcases n with _ | k)
  all_goals (try (exact nos h))
  all_goals (obtain ⟨K, rfl⟩ : ∃ q, K = q + 1 := ⟨K - 1, by omega⟩)
  all_goals (first | rw [spec_IsSource.e2])
  all_goals (simp only [spec_IsSource.l0] at h)
  repeat' (with_reducible first
   | exact nos h
   | (cases some_inj h; exact spec_IsSource.rt _)
   | exact (ih _ (by omega)) _ (by omega) _ _ _ h
   | (simp only [Option.bind_some] at h)
   | (refine ite_by h (fun hc h => ?_) (fun hc h => ?_) <;> (try simp only [nrm] at hc))
   | refine itT ?_ (by first | assumption | omega | (simp only [nrm]; first | done | assumption | omega) | (simp only [nln] at hc ⊢; omega))
   | refine itF ?_ (by first | assumption | omega | (simp only [nrm]; first | done | assumption | omega) | (simp only [nln] at hc ⊢; omega))
   | (refine bind_by h (fun t ht h => ?_); refine (spec_IsFeature.ap_of (spec_IsFeature.go ht _ (by omega))).trans ?_; (try dsimp only at h ⊢))
   | (simp only [decide_not, Bool.decide_and, decide_true, Bool.and_true, Bool.not_and, beqI] at h ⊢)
   | (exfalso; omega))
theorem spec_IsSource.go {k : Nat} {l0 : List S29} {t} (h : spec_IsSource.f k l0 = some t) (K : Nat) (hK : k ≤ K) : spec_IsSource.run K (l0, ()) = some (spec_IsSource.toH t) := by
  rw [spec_IsSource.ef]
  (try dsimp only)
  unfold spec_IsSource.f at h
  repeat' (with_reducible first
   | exact nos h
   | (cases some_inj h; exact spec_IsSource.rt _)
   | exact (spec_IsSource.br _) _ (by omega) _ _ _ h
   | (simp only [Option.bind_some] at h)
   | (refine ite_by h (fun hc h => ?_) (fun hc h => ?_) <;> (try simp only [nrm] at hc))
   | refine itT ?_ (by first | assumption | omega | (simp only [nrm]; first | done | assumption | omega) | (simp only [nln] at hc ⊢; omega))
   | refine itF ?_ (by first | assumption | omega | (simp only [nrm]; first | done | assumption | omega) | (simp only [nln] at hc ⊢; omega))
   | (refine bind_by h (fun t ht h => ?_); refine (spec_IsFeature.ap_of (spec_IsFeature.go ht _ (by omega))).trans ?_; (try dsimp only at h ⊢))
   | (simp only [decide_not, Bool.decide_and, decide_true, Bool.and_true, Bool.not_and, beqI] at h ⊢)
   | (exfalso; omega))
def spec_TileBox.Fs : List (Spc env) := [spec_l1In.spec, spec_Min.spec]
def spec_TileBox.cut : Nat → Option (List (Lv SC)) := lk []
def spec_TileBox.ret (r0 : S98) (r1 : Bool) : Option (HL eΓ [.st .s98, .b]) := some (r0, r1, ())
def spec_TileBox.run (k : Nat) (h : HL eΓ [.i .i64]) : Option (HL eΓ [.st .s98, .b]) := evF env spec_TileBox.Fs Try.f96 spec_TileBox.cut [.i .i64] [.st .s98, .b] k h
theorem spec_TileBox.ef (k : Nat) (h0 : Int) : spec_TileBox.run k (h0, ()) = spec_l1In.ap k h0 0 440 fun r1 => if (!r1) = true then (spec_TileBox.ret (⟨(⟨0, 0⟩ : S82), (⟨0, 0⟩ : S82)⟩ : S98) false) else (spec_Min.ap k 200 (wrap64 ((wrap64 ((Int.tmod h0 21) * 10)) + 10)) fun r2 => spec_Min.ap k 200 (wrap64 ((wrap64 ((wrap64 (Int.tdiv h0 21)) * 10)) + 10)) fun r3 => spec_TileBox.ret (⟨(⟨wrap64 ((Int.tmod h0 21) * 10), wrap64 ((wrap64 (Int.tdiv h0 21)) * 10)⟩ : S82), (⟨r2, r3⟩ : S82)⟩ : S98) true) := by kernel_rfl
def spec_TileBox.toH (t : Int × Int × Int × Int × Bool) : HL eΓ [.st .s98, .b] := ((⟨(⟨t.1, t.2.1⟩ : S82), (⟨t.2.2.1, t.2.2.2.1⟩ : S82)⟩ : S98), t.2.2.2.2, ())
def spec_TileBox.spec : Spc env := ⟨96, [.i .i64], [.st .s98, .b], spec_TileBox.run⟩
def spec_TileBox.ap {R : Type} (k : Nat) (h0 : Int) (K : S98 → Bool → Option R) : Option R := (spec_TileBox.run k (h0, ())).bind fun r => K (r.1 : S98) (r.2.1 : Bool)
theorem spec_TileBox.ap_of {R : Type} {k : Nat} {h0 : Int} {r0 : S98} {r1 : Bool} {K : S98 → Bool → Option R} (h : spec_TileBox.run k (h0, ()) = some (r0, r1, ())) : spec_TileBox.ap k h0 K = K r0 r1 := by unfold spec_TileBox.ap; rw [h]; rfl
theorem spec_TileBox.snd : Snd env spec_TileBox.spec := evF_snd env_ok (sndC spec_l1In.snd (sndC spec_Min.snd (sndN))) (by kernel_rfl) (by kernel_rfl) (by kernel_rfl)
attribute [local irreducible] spec_TileBox.run
theorem spec_TileBox.rt (a0 : Int) (a1 : Int) (a2 : Int) (a3 : Int) (a4 : Bool) : spec_TileBox.ret (⟨(⟨a0, a1⟩ : S82), (⟨a2, a3⟩ : S82)⟩ : S98) a4 = some (spec_TileBox.toH (a0, a1, a2, a3, a4)) := rfl
theorem spec_TileBox.go {a0 : Int} {t} (h : spec_TileBox.f a0 = some t) (K : Nat) : spec_TileBox.run K (a0, ()) = some (spec_TileBox.toH t) := by
  rw [spec_TileBox.ef]
  (try dsimp only)
  unfold spec_TileBox.f at h
  repeat' (with_reducible first
   | exact nos h
   | (cases some_inj h; exact spec_TileBox.rt _ _ _ _ _)
   | (simp only [Option.bind_some] at h)
   | (refine ite_by h (fun hc h => ?_) (fun hc h => ?_) <;> (try simp only [nrm] at hc))
   | refine itT ?_ (by first | assumption | omega | (simp only [nrm]; first | done | assumption | omega) | (simp only [nln] at hc ⊢; omega))
   | refine itF ?_ (by first | assumption | omega | (simp only [nrm]; first | done | assumption | omega) | (simp only [nln] at hc ⊢; omega))
   | (refine bind_by h (fun t ht h => ?_); (first | refine (spec_l1In.ap_of (spec_l1In.go ht _)).trans ?_ | refine (spec_Min.ap_of (spec_Min.go ht _)).trans ?_); (try dsimp only at h ⊢))
   | (simp only [decide_not, Bool.decide_and, decide_true, Bool.and_true, Bool.not_and, beqI] at h ⊢)
   | (exfalso; omega))
def spec_IsBox.Fs : List (Spc env) := [spec_IsPoint.spec]
def spec_IsBox.cut : Nat → Option (List (Lv SC)) := lk []
def spec_IsBox.ret (r0 : Bool) : Option (HL eΓ [.b]) := some (r0, ())
def spec_IsBox.run (k : Nat) (h : HL eΓ [.st .s98]) : Option (HL eΓ [.b]) := evF env spec_IsBox.Fs Try.f157 spec_IsBox.cut [.st .s98] [.b] k h
theorem spec_IsBox.ef (k : Nat) (h0 : S98) : spec_IsBox.run k (h0, ()) = spec_IsPoint.ap k (⟨h0.f0.f0, h0.f0.f1⟩ : S82) fun r1 => if r1 = true then (spec_IsPoint.ap k (⟨h0.f1.f0, h0.f1.f1⟩ : S82) fun r2 => if r2 = true then (if h0.f0.f0 ≤ h0.f1.f0 then (spec_IsBox.ret (decide (h0.f0.f1 ≤ h0.f1.f1))) else (spec_IsBox.ret false)) else (spec_IsBox.ret false)) else (spec_IsBox.ret false) := by kernel_rfl
def spec_IsBox.toH (t : Bool) : HL eΓ [.b] := (t, ())
def spec_IsBox.spec : Spc env := ⟨157, [.st .s98], [.b], spec_IsBox.run⟩
def spec_IsBox.ap {R : Type} (k : Nat) (h0 : S98) (K : Bool → Option R) : Option R := (spec_IsBox.run k (h0, ())).bind fun r => K (r.1 : Bool)
theorem spec_IsBox.ap_of {R : Type} {k : Nat} {h0 : S98} {r0 : Bool} {K : Bool → Option R} (h : spec_IsBox.run k (h0, ()) = some (r0, ())) : spec_IsBox.ap k h0 K = K r0 := by unfold spec_IsBox.ap; rw [h]; rfl
theorem spec_IsBox.snd : Snd env spec_IsBox.spec := evF_snd env_ok (sndC spec_IsPoint.snd (sndN)) (by kernel_rfl) (by kernel_rfl) (by kernel_rfl)
attribute [local irreducible] spec_IsBox.run
theorem spec_IsBox.rt (a0 : Bool) : spec_IsBox.ret a0 = some (spec_IsBox.toH (a0)) := rfl
theorem spec_IsBox.go {a0_0 : Int} {a0_1 : Int} {a0_2 : Int} {a0_3 : Int} {t} (h : spec_IsBox.f a0_0 a0_1 a0_2 a0_3 = some t) (K : Nat) : spec_IsBox.run K ((⟨(⟨a0_0, a0_1⟩ : S82), (⟨a0_2, a0_3⟩ : S82)⟩ : S98), ()) = some (spec_IsBox.toH t) := by
  rw [spec_IsBox.ef]
  (try dsimp only)
  unfold spec_IsBox.f at h
  repeat' (with_reducible first
   | exact nos h
   | (cases some_inj h; exact spec_IsBox.rt _)
   | (simp only [Option.bind_some] at h)
   | (refine ite_by h (fun hc h => ?_) (fun hc h => ?_) <;> (try simp only [nrm] at hc))
   | refine itT ?_ (by first | assumption | omega | (simp only [nrm]; first | done | assumption | omega) | (simp only [nln] at hc ⊢; omega))
   | refine itF ?_ (by first | assumption | omega | (simp only [nrm]; first | done | assumption | omega) | (simp only [nln] at hc ⊢; omega))
   | (refine bind_by h (fun t ht h => ?_); refine (spec_IsPoint.ap_of (spec_IsPoint.go ht _)).trans ?_; (try dsimp only at h ⊢))
   | (simp only [decide_not, Bool.decide_and, decide_true, Bool.and_true, Bool.not_and, beqI] at h ⊢)
   | (exfalso; omega))
def spec_InBox.Fs : List (Spc env) := [spec_IsBox.spec, spec_l1In.spec]
def spec_InBox.cut : Nat → Option (List (Lv SC)) := lk []
def spec_InBox.ret (r0 : Bool) : Option (HL eΓ [.b]) := some (r0, ())
def spec_InBox.run (k : Nat) (h : HL eΓ [.st .s98, .st .s82]) : Option (HL eΓ [.b]) := evF env spec_InBox.Fs Try.f141 spec_InBox.cut [.st .s98, .st .s82] [.b] k h
theorem spec_InBox.ef (k : Nat) (h0 : S98) (h1 : S82) : spec_InBox.run k (h0, h1, ()) = spec_IsBox.ap k (⟨(⟨h0.f0.f0, h0.f0.f1⟩ : S82), (⟨h0.f1.f0, h0.f1.f1⟩ : S82)⟩ : S98) fun r1 => if r1 = true then (spec_l1In.ap k h1.f0 h0.f0.f0 h0.f1.f0 fun r2 => if r2 = true then (spec_l1In.ap k h1.f1 h0.f0.f1 h0.f1.f1 fun r3 => spec_InBox.ret r3) else (spec_InBox.ret false)) else (spec_InBox.ret false) := by kernel_rfl
def spec_InBox.toH (t : Bool) : HL eΓ [.b] := (t, ())
def spec_InBox.spec : Spc env := ⟨141, [.st .s98, .st .s82], [.b], spec_InBox.run⟩
def spec_InBox.ap {R : Type} (k : Nat) (h0 : S98) (h1 : S82) (K : Bool → Option R) : Option R := (spec_InBox.run k (h0, h1, ())).bind fun r => K (r.1 : Bool)
theorem spec_InBox.ap_of {R : Type} {k : Nat} {h0 : S98} {h1 : S82} {r0 : Bool} {K : Bool → Option R} (h : spec_InBox.run k (h0, h1, ()) = some (r0, ())) : spec_InBox.ap k h0 h1 K = K r0 := by unfold spec_InBox.ap; rw [h]; rfl
theorem spec_InBox.snd : Snd env spec_InBox.spec := evF_snd env_ok (sndC spec_IsBox.snd (sndC spec_l1In.snd (sndN))) (by kernel_rfl) (by kernel_rfl) (by kernel_rfl)
attribute [local irreducible] spec_InBox.run
theorem spec_InBox.rt (a0 : Bool) : spec_InBox.ret a0 = some (spec_InBox.toH (a0)) := rfl
theorem spec_InBox.go {a0_0 : Int} {a0_1 : Int} {a0_2 : Int} {a0_3 : Int} {a1_0 : Int} {a1_1 : Int} {t} (h : spec_InBox.f a0_0 a0_1 a0_2 a0_3 a1_0 a1_1 = some t) (K : Nat) : spec_InBox.run K ((⟨(⟨a0_0, a0_1⟩ : S82), (⟨a0_2, a0_3⟩ : S82)⟩ : S98), (⟨a1_0, a1_1⟩ : S82), ()) = some (spec_InBox.toH t) := by
  rw [spec_InBox.ef]
  (try dsimp only)
  unfold spec_InBox.f at h
  repeat' (with_reducible first
   | exact nos h
   | (cases some_inj h; exact spec_InBox.rt _)
   | (simp only [Option.bind_some] at h)
   | (refine ite_by h (fun hc h => ?_) (fun hc h => ?_) <;> (try simp only [nrm] at hc))
   | refine itT ?_ (by first | assumption | omega | (simp only [nrm]; first | done | assumption | omega) | (simp only [nln] at hc ⊢; omega))
   | refine itF ?_ (by first | assumption | omega | (simp only [nrm]; first | done | assumption | omega) | (simp only [nln] at hc ⊢; omega))
   | (refine bind_by h (fun t ht h => ?_); (first | refine (spec_IsBox.ap_of (spec_IsBox.go ht _)).trans ?_ | refine (spec_l1In.ap_of (spec_l1In.go ht _)).trans ?_); (try dsimp only at h ⊢))
   | (simp only [decide_not, Bool.decide_and, decide_true, Bool.and_true, Bool.not_and, beqI] at h ⊢)
   | (exfalso; omega))
def spec_BoxOf.Fs : List (Spc env) := [spec_IsPoint.spec, spec_Min.spec, spec_Max.spec]
def spec_BoxOf.fin : St eΓ → Option (HL eΓ [.st .s98, .b]) := finR env Try.f162.results.toList [.st .s98, .b]
def spec_BoxOf.cut : Nat → Option (List (Lv SC)) := lk [(5, [⟨0, none, false⟩, ⟨2, none, false⟩, ⟨4, none, false⟩, ⟨5, none, false⟩])]
def spec_BoxOf.ret (r0 : S98) (r1 : Bool) : Option (HL eΓ [.st .s98, .b]) := some (r0, r1, ())
def spec_BoxOf.p5 (k : Nat) (x5 : Int) (x0 : List S82) (b1_0 : Int) (b1_1 : Int) (b1_2 : Int) (b1_3 : Int) (b2_0 : Int) (b2_1 : Int) (b2_2 : Int) (b2_3 : Int) : Option (HL eΓ [.st .s98, .b]) := evM env spec_BoxOf.Fs Try.f162.ntmps spec_BoxOf.fin spec_BoxOf.cut k [.code (sub_ [1, 1, 1, 0, 1, 0, 0, 0, 0] (bodyOf Try.f162)), .code (sub_ [1, 1, 1, 0, 1, 0, 0, 0, 1] (bodyOf Try.f162)), .code (sub_ [1, 1, 1, 0, 1, 0, 0, 1] (bodyOf Try.f162)), .lp (sub_ [1, 1, 1, 0, 1, 0, 0] (bodyOf Try.f162)), .blk 0, .code (sub_ [1, 1, 1, 1] (bodyOf Try.f162))] (mkSt [(0, .c (.sl 0)), (2, .c (.ptr 1 0)), (4, .c (.ptr 2 0)), (5, .c (.v (.int .i64 x5)))] [.row .ro 82 (.st .s82) x0, .box 98 [.v (.int .i64 b1_0), .v (.int .i64 b1_1), .v (.int .i64 b1_2), .v (.int .i64 b1_3)], .box 98 [.v (.int .i64 b2_0), .v (.int .i64 b2_1), .v (.int .i64 b2_2), .v (.int .i64 b2_3)]])
theorem spec_BoxOf.e5 (k : Nat) (x5 : Int) (x0 : List S82) (b1_0 : Int) (b1_1 : Int) (b1_2 : Int) (b1_3 : Int) (b2_0 : Int) (b2_1 : Int) (b2_2 : Int) (b2_3 : Int) : spec_BoxOf.p5 (k + 1) x5 x0 b1_0 b1_1 b1_2 b1_3 b2_0 b2_1 b2_2 b2_3 = if x5 < (x0.length : Int) then (if 0 ≤ x5 then (if x5 < (x0.length : Int) then (spec_IsPoint.ap k (⟨(rd_T82 x0 x5).f0, (rd_T82 x0 x5).f1⟩ : S82) fun r1 => if (!r1) = true then (spec_BoxOf.ret (⟨(⟨0, 0⟩ : S82), (⟨0, 0⟩ : S82)⟩ : S98) false) else (if 0 ≤ x5 then (if x5 < (x0.length : Int) then (spec_Min.ap k b2_0 ((rd_T82 x0 x5).f0) fun r2 => if 0 ≤ x5 then (if x5 < (x0.length : Int) then (spec_Min.ap k b2_1 ((rd_T82 x0 x5).f1) fun r3 => if 0 ≤ x5 then (if x5 < (x0.length : Int) then (spec_Max.ap k b2_2 ((rd_T82 x0 x5).f0) fun r4 => if 0 ≤ x5 then (if x5 < (x0.length : Int) then (spec_Max.ap k b2_3 ((rd_T82 x0 x5).f1) fun r5 => spec_BoxOf.p5 k (wrap64 (x5 + 1)) x0 b1_0 b1_1 b1_2 b1_3 r2 r3 r4 r5) else none) else none) else none) else none) else none) else none) else none) else none)) else none) else none) else (spec_BoxOf.ret (⟨(⟨b2_0, b2_1⟩ : S82), (⟨b2_2, b2_3⟩ : S82)⟩ : S98) true) := by kernel_rfl
def spec_BoxOf.run (k : Nat) (h : HL eΓ [.l 82 (.st .s82)]) : Option (HL eΓ [.st .s98, .b]) := evF env spec_BoxOf.Fs Try.f162 spec_BoxOf.cut [.l 82 (.st .s82)] [.st .s98, .b] k h
theorem spec_BoxOf.ef (k : Nat) (h0 : List S82) : spec_BoxOf.run k (h0, ()) = if (h0.length : Int) = 0 then (spec_BoxOf.ret (⟨(⟨0, 0⟩ : S82), (⟨0, 0⟩ : S82)⟩ : S98) false) else (if 0 < (h0.length : Int) then (if 0 < (h0.length : Int) then (spec_BoxOf.p5 k 0 h0 0 0 0 0 ((rd_T82 h0 0).f0) ((rd_T82 h0 0).f1) ((rd_T82 h0 0).f0) ((rd_T82 h0 0).f1)) else none) else none) := by kernel_rfl
def spec_BoxOf.toH (t : Int × Int × Int × Int × Bool) : HL eΓ [.st .s98, .b] := ((⟨(⟨t.1, t.2.1⟩ : S82), (⟨t.2.2.1, t.2.2.2.1⟩ : S82)⟩ : S98), t.2.2.2.2, ())
def spec_BoxOf.spec : Spc env := ⟨162, [.l 82 (.st .s82)], [.st .s98, .b], spec_BoxOf.run⟩
def spec_BoxOf.ap {R : Type} (k : Nat) (h0 : List S82) (K : S98 → Bool → Option R) : Option R := (spec_BoxOf.run k (h0, ())).bind fun r => K (r.1 : S98) (r.2.1 : Bool)
theorem spec_BoxOf.ap_of {R : Type} {k : Nat} {h0 : List S82} {r0 : S98} {r1 : Bool} {K : S98 → Bool → Option R} (h : spec_BoxOf.run k (h0, ()) = some (r0, r1, ())) : spec_BoxOf.ap k h0 K = K r0 r1 := by unfold spec_BoxOf.ap; rw [h]; rfl
theorem spec_BoxOf.snd : Snd env spec_BoxOf.spec := evF_snd env_ok (sndC spec_IsPoint.snd (sndC spec_Min.snd (sndC spec_Max.snd (sndN)))) (by kernel_rfl) (by kernel_rfl) (by kernel_rfl)
attribute [local irreducible] spec_BoxOf.run
theorem spec_BoxOf.rt (a0 : Int) (a1 : Int) (a2 : Int) (a3 : Int) (a4 : Bool) : spec_BoxOf.ret (⟨(⟨a0, a1⟩ : S82), (⟨a2, a3⟩ : S82)⟩ : S98) a4 = some (spec_BoxOf.toH (a0, a1, a2, a3, a4)) := rfl
theorem spec_BoxOf.br (n : Nat) : (∀ K, n ≤ K → ∀ (x5 : Int) (x0 : List S82) (b1_0 : Int) (b1_1 : Int) (b1_2 : Int) (b1_3 : Int) (b2_0 : Int) (b2_1 : Int) (b2_2 : Int) (b2_3 : Int) t, spec_BoxOf.l0 n x0 x5 b2_0 b2_1 b2_2 b2_3 = some t → spec_BoxOf.p5 K x5 x0 b1_0 b1_1 b1_2 b1_3 b2_0 b2_1 b2_2 b2_3 = some (spec_BoxOf.toH t)) := by
  induction n using Nat.strongRecOn with
  | _ n ih =>
  intro K hK x5 x0 b1_0 b1_1 b1_2 b1_3 b2_0 b2_1 b2_2 b2_3 t h
  all_goals (rcases n with _ | k)
  all_goals (try (exact nos h))
  all_goals (obtain ⟨K, rfl⟩ : ∃ q, K = q + 1 := ⟨K - 1, by omega⟩)
  all_goals (first | rw [spec_BoxOf.e5])
  all_goals (simp only [spec_BoxOf.l0] at h)
  repeat' (with_reducible first
   | exact nos h
   | (cases some_inj h; exact spec_BoxOf.rt _ _ _ _ _)
   | exact (ih _ (by omega)) _ (by omega) _ _ _ _ _ _ _ _ _ _ _ h
   | (simp only [Option.bind_some] at h)
   | (refine ite_by h (fun hc h => ?_) (fun hc h => ?_) <;> (try simp only [nrm] at hc))
   | refine itT ?_ (by first | assumption | omega | (simp only [nrm]; first | done | assumption | omega) | (simp only [nln] at hc ⊢; omega))
   | refine itF ?_ (by first | assumption | omega | (simp only [nrm]; first | done | assumption | omega) | (simp only [nln] at hc ⊢; omega))
   | (refine bind_by h (fun t ht h => ?_); (first | refine (spec_IsPoint.ap_of (spec_IsPoint.go ht _)).trans ?_ | refine (spec_Min.ap_of (spec_Min.go ht _)).trans ?_ | refine (spec_Max.ap_of (spec_Max.go ht _)).trans ?_); (try dsimp only at h ⊢))
   | (simp only [decide_not, Bool.decide_and, decide_true, Bool.and_true, Bool.not_and, beqI] at h ⊢)
   | (exfalso; omega))
theorem spec_BoxOf.go {k : Nat} {l0 : List S82} {t} (h : spec_BoxOf.f k l0 = some t) (K : Nat) (hK : k ≤ K) : spec_BoxOf.run K (l0, ()) = some (spec_BoxOf.toH t) := by
  rw [spec_BoxOf.ef]
  (try dsimp only)
  unfold spec_BoxOf.f at h
  repeat' (with_reducible first
   | exact nos h
   | (cases some_inj h; exact spec_BoxOf.rt _ _ _ _ _)
   | exact (spec_BoxOf.br _) _ (by omega) _ _ _ _ _ _ _ _ _ _ _ h
   | (simp only [Option.bind_some] at h)
   | (refine ite_by h (fun hc h => ?_) (fun hc h => ?_) <;> (try simp only [nrm] at hc))
   | refine itT ?_ (by first | assumption | omega | (simp only [nrm]; first | done | assumption | omega) | (simp only [nln] at hc ⊢; omega))
   | refine itF ?_ (by first | assumption | omega | (simp only [nrm]; first | done | assumption | omega) | (simp only [nln] at hc ⊢; omega))
   | (refine bind_by h (fun t ht h => ?_); (first | refine (spec_IsPoint.ap_of (spec_IsPoint.go ht _)).trans ?_ | refine (spec_Min.ap_of (spec_Min.go ht _)).trans ?_ | refine (spec_Max.ap_of (spec_Max.go ht _)).trans ?_); (try dsimp only at h ⊢))
   | (simp only [decide_not, Bool.decide_and, decide_true, Bool.and_true, Bool.not_and, beqI] at h ⊢)
   | (exfalso; omega))
def spec_BoxesMeet.Fs : List (Spc env) := [spec_IsBox.spec]
def spec_BoxesMeet.cut : Nat → Option (List (Lv SC)) := lk []
def spec_BoxesMeet.ret (r0 : Bool) : Option (HL eΓ [.b]) := some (r0, ())
def spec_BoxesMeet.run (k : Nat) (h : HL eΓ [.st .s98, .st .s98]) : Option (HL eΓ [.b]) := evF env spec_BoxesMeet.Fs Try.f163 spec_BoxesMeet.cut [.st .s98, .st .s98] [.b] k h
theorem spec_BoxesMeet.ef (k : Nat) (h0 : S98) (h1 : S98) : spec_BoxesMeet.run k (h0, h1, ()) = spec_IsBox.ap k (⟨(⟨h0.f0.f0, h0.f0.f1⟩ : S82), (⟨h0.f1.f0, h0.f1.f1⟩ : S82)⟩ : S98) fun r1 => if r1 = true then (spec_IsBox.ap k (⟨(⟨h1.f0.f0, h1.f0.f1⟩ : S82), (⟨h1.f1.f0, h1.f1.f1⟩ : S82)⟩ : S98) fun r2 => if r2 = true then (if h0.f0.f0 ≤ h1.f1.f0 then (if h1.f0.f0 ≤ h0.f1.f0 then (if h0.f0.f1 ≤ h1.f1.f1 then (spec_BoxesMeet.ret (decide (h1.f0.f1 ≤ h0.f1.f1))) else (spec_BoxesMeet.ret false)) else (spec_BoxesMeet.ret false)) else (spec_BoxesMeet.ret false)) else (spec_BoxesMeet.ret false)) else (spec_BoxesMeet.ret false) := by kernel_rfl
def spec_BoxesMeet.toH (t : Bool) : HL eΓ [.b] := (t, ())
def spec_BoxesMeet.spec : Spc env := ⟨163, [.st .s98, .st .s98], [.b], spec_BoxesMeet.run⟩
def spec_BoxesMeet.ap {R : Type} (k : Nat) (h0 : S98) (h1 : S98) (K : Bool → Option R) : Option R := (spec_BoxesMeet.run k (h0, h1, ())).bind fun r => K (r.1 : Bool)
theorem spec_BoxesMeet.ap_of {R : Type} {k : Nat} {h0 : S98} {h1 : S98} {r0 : Bool} {K : Bool → Option R} (h : spec_BoxesMeet.run k (h0, h1, ()) = some (r0, ())) : spec_BoxesMeet.ap k h0 h1 K = K r0 := by unfold spec_BoxesMeet.ap; rw [h]; rfl
theorem spec_BoxesMeet.snd : Snd env spec_BoxesMeet.spec := evF_snd env_ok (sndC spec_IsBox.snd (sndN)) (by kernel_rfl) (by kernel_rfl) (by kernel_rfl)
attribute [local irreducible] spec_BoxesMeet.run
theorem spec_BoxesMeet.rt (a0 : Bool) : spec_BoxesMeet.ret a0 = some (spec_BoxesMeet.toH (a0)) := rfl
theorem spec_BoxesMeet.go {a0_0 : Int} {a0_1 : Int} {a0_2 : Int} {a0_3 : Int} {a1_0 : Int} {a1_1 : Int} {a1_2 : Int} {a1_3 : Int} {t} (h : spec_BoxesMeet.f a0_0 a0_1 a0_2 a0_3 a1_0 a1_1 a1_2 a1_3 = some t) (K : Nat) : spec_BoxesMeet.run K ((⟨(⟨a0_0, a0_1⟩ : S82), (⟨a0_2, a0_3⟩ : S82)⟩ : S98), (⟨(⟨a1_0, a1_1⟩ : S82), (⟨a1_2, a1_3⟩ : S82)⟩ : S98), ()) = some (spec_BoxesMeet.toH t) := by
  rw [spec_BoxesMeet.ef]
  (try dsimp only)
  unfold spec_BoxesMeet.f at h
  repeat' (with_reducible first
   | exact nos h
   | (cases some_inj h; exact spec_BoxesMeet.rt _)
   | (simp only [Option.bind_some] at h)
   | (refine ite_by h (fun hc h => ?_) (fun hc h => ?_) <;> (try simp only [nrm] at hc))
   | refine itT ?_ (by first | assumption | omega | (simp only [nrm]; first | done | assumption | omega) | (simp only [nln] at hc ⊢; omega))
   | refine itF ?_ (by first | assumption | omega | (simp only [nrm]; first | done | assumption | omega) | (simp only [nln] at hc ⊢; omega))
   | (refine bind_by h (fun t ht h => ?_); refine (spec_IsBox.ap_of (spec_IsBox.go ht _)).trans ?_; (try dsimp only at h ⊢))
   | (simp only [decide_not, Bool.decide_and, decide_true, Bool.and_true, Bool.not_and, beqI] at h ⊢)
   | (exfalso; omega))
def spec_MeetsBox.Fs : List (Spc env) := [spec_BoxOf.spec, spec_IsSegment.spec, spec_BoxesMeet.spec, spec_SideOf.spec]
def spec_MeetsBox.fin : St eΓ → Option (HL eΓ [.b]) := finR env Try.f142.results.toList [.b]
def spec_MeetsBox.cut : Nat → Option (List (Lv SC)) := lk [(8, [⟨2, none, false⟩, ⟨7, none, false⟩, ⟨8, none, false⟩, ⟨9, none, false⟩, ⟨10, none, false⟩])]
def spec_MeetsBox.ret (r0 : Bool) : Option (HL eΓ [.b]) := some (r0, ())
def spec_MeetsBox.p8 (k : Nat) (x8 : Int) (x9 : Int) (x10 : Int) (b0_0 : Int) (b0_1 : Int) (b0_2 : Int) (b0_3 : Int) (x7 : List S82) : Option (HL eΓ [.b]) := evM env spec_MeetsBox.Fs Try.f142.ntmps spec_MeetsBox.fin spec_MeetsBox.cut k [.code (sub_ [1, 1, 1, 1, 1, 1, 0, 1, 0, 0, 0, 0] (bodyOf Try.f142)), .code (sub_ [1, 1, 1, 1, 1, 1, 0, 1, 0, 0, 0, 1] (bodyOf Try.f142)), .code (sub_ [1, 1, 1, 1, 1, 1, 0, 1, 0, 0, 1] (bodyOf Try.f142)), .lp (sub_ [1, 1, 1, 1, 1, 1, 0, 1, 0, 0] (bodyOf Try.f142)), .blk 0, .code (sub_ [1, 1, 1, 1, 1, 1, 1] (bodyOf Try.f142))] (mkSt [(2, .c (.ptr 0 0)), (7, .c (.sl 1)), (8, .c (.v (.int .i64 x8))), (9, .c (.v (.int .i64 x9))), (10, .c (.v (.int .i64 x10)))] [.box 85 [.v (.int .i64 b0_0), .v (.int .i64 b0_1), .v (.int .i64 b0_2), .v (.int .i64 b0_3)], .row .own 82 (.st .s82) x7])
theorem spec_MeetsBox.e8 (k : Nat) (x8 : Int) (x9 : Int) (x10 : Int) (b0_0 : Int) (b0_1 : Int) (b0_2 : Int) (b0_3 : Int) (x7 : List S82) : spec_MeetsBox.p8 (k + 1) x8 x9 x10 b0_0 b0_1 b0_2 b0_3 x7 = if x10 < 4 then (if 0 ≤ x10 then (if x10 < (x7.length : Int) then (spec_SideOf.ap k (⟨b0_0, b0_1⟩ : S82) (⟨b0_2, b0_3⟩ : S82) (⟨(rd_T82 x7 x10).f0, (rd_T82 x7 x10).f1⟩ : S82) fun r1 => if r1 = 1 then (spec_MeetsBox.p8 k (wrap64 (x8 + 1)) x9 (wrap64 (x10 + 1)) b0_0 b0_1 b0_2 b0_3 x7) else (if r1 = (-1) then (spec_MeetsBox.p8 k x8 (wrap64 (x9 + 1)) (wrap64 (x10 + 1)) b0_0 b0_1 b0_2 b0_3 x7) else (spec_MeetsBox.p8 k x8 x9 (wrap64 (x10 + 1)) b0_0 b0_1 b0_2 b0_3 x7))) else none) else none) else (if x8 < 4 then (spec_MeetsBox.ret (decide (x9 < 4))) else (spec_MeetsBox.ret false)) := by kernel_rfl
def spec_MeetsBox.run (k : Nat) (h : HL eΓ [.st .s85, .st .s98]) : Option (HL eΓ [.b]) := evF env spec_MeetsBox.Fs Try.f142 spec_MeetsBox.cut [.st .s85, .st .s98] [.b] k h
theorem spec_MeetsBox.ef (k : Nat) (h0 : S85) (h1 : S98) : spec_MeetsBox.run k (h0, h1, ()) = spec_BoxOf.ap k ([(⟨h0.f0.f0, h0.f0.f1⟩ : S82), (⟨h0.f1.f0, h0.f1.f1⟩ : S82)] : List S82) fun r1_0 r1_1 => spec_IsSegment.ap k (⟨(⟨h0.f0.f0, h0.f0.f1⟩ : S82), (⟨h0.f1.f0, h0.f1.f1⟩ : S82)⟩ : S85) fun r2 => if (!r2) = true then (spec_MeetsBox.ret false) else (spec_BoxesMeet.ap k (⟨(⟨r1_0.f0.f0, r1_0.f0.f1⟩ : S82), (⟨r1_0.f1.f0, r1_0.f1.f1⟩ : S82)⟩ : S98) (⟨(⟨h1.f0.f0, h1.f0.f1⟩ : S82), (⟨h1.f1.f0, h1.f1.f1⟩ : S82)⟩ : S98) fun r3 => if (!r3) = true then (spec_MeetsBox.ret false) else (spec_MeetsBox.p8 k 0 0 0 h0.f0.f0 h0.f0.f1 h0.f1.f0 h0.f1.f1 ([(⟨h1.f0.f0, h1.f0.f1⟩ : S82), (⟨h1.f0.f0, h1.f1.f1⟩ : S82), (⟨h1.f1.f0, h1.f1.f1⟩ : S82), (⟨h1.f1.f0, h1.f0.f1⟩ : S82)] : List S82))) := by kernel_rfl
def spec_MeetsBox.toH (t : Bool) : HL eΓ [.b] := (t, ())
def spec_MeetsBox.spec : Spc env := ⟨142, [.st .s85, .st .s98], [.b], spec_MeetsBox.run⟩
def spec_MeetsBox.ap {R : Type} (k : Nat) (h0 : S85) (h1 : S98) (K : Bool → Option R) : Option R := (spec_MeetsBox.run k (h0, h1, ())).bind fun r => K (r.1 : Bool)
theorem spec_MeetsBox.ap_of {R : Type} {k : Nat} {h0 : S85} {h1 : S98} {r0 : Bool} {K : Bool → Option R} (h : spec_MeetsBox.run k (h0, h1, ()) = some (r0, ())) : spec_MeetsBox.ap k h0 h1 K = K r0 := by unfold spec_MeetsBox.ap; rw [h]; rfl
theorem spec_MeetsBox.snd : Snd env spec_MeetsBox.spec := evF_snd env_ok (sndC spec_BoxOf.snd (sndC spec_IsSegment.snd (sndC spec_BoxesMeet.snd (sndC spec_SideOf.snd (sndN))))) (by kernel_rfl) (by kernel_rfl) (by kernel_rfl)
attribute [local irreducible] spec_MeetsBox.run
theorem spec_MeetsBox.rt (a0 : Bool) : spec_MeetsBox.ret a0 = some (spec_MeetsBox.toH (a0)) := rfl
theorem spec_MeetsBox.br (n : Nat) : (∀ K, n ≤ K → ∀ (x8 : Int) (x9 : Int) (x10 : Int) (b0_0 : Int) (b0_1 : Int) (b0_2 : Int) (b0_3 : Int) (x7 : List S82) t, spec_MeetsBox.l0 n x7 x8 x9 x10 b0_0 b0_1 b0_2 b0_3 = some t → spec_MeetsBox.p8 K x8 x9 x10 b0_0 b0_1 b0_2 b0_3 x7 = some (spec_MeetsBox.toH t)) := by
  induction n using Nat.strongRecOn with
  | _ n ih =>
  intro K hK x8 x9 x10 b0_0 b0_1 b0_2 b0_3 x7 t h
  all_goals (rcases n with _ | k)
  all_goals (try (exact nos h))
  all_goals (obtain ⟨K, rfl⟩ : ∃ q, K = q + 1 := ⟨K - 1, by omega⟩)
  all_goals (first | rw [spec_MeetsBox.e8])
  all_goals (simp only [spec_MeetsBox.l0] at h)
  repeat' (with_reducible first
   | exact nos h
   | (cases some_inj h; exact spec_MeetsBox.rt _)
   | exact (ih _ (by omega)) _ (by omega) _ _ _ _ _ _ _ _ _ h
   | ((have q : spec_MeetsBox.j0 k _ _ _ _ _ _ _ _ _ = some _ := h; clear q); rcases k with _ | k <;> simp only [spec_MeetsBox.j0, reduceCtorEq] at h)
   | (simp only [Option.bind_some] at h)
   | (refine ite_by h (fun hc h => ?_) (fun hc h => ?_) <;> (try simp only [nrm] at hc))
   | refine itT ?_ (by first | assumption | omega | (simp only [nrm]; first | done | assumption | omega) | (simp only [nln] at hc ⊢; omega))
   | refine itF ?_ (by first | assumption | omega | (simp only [nrm]; first | done | assumption | omega) | (simp only [nln] at hc ⊢; omega))
   | (refine bind_by h (fun t ht h => ?_); (first | refine (spec_BoxOf.ap_of (spec_BoxOf.go ht _ (by omega))).trans ?_ | refine (spec_IsSegment.ap_of (spec_IsSegment.go ht _)).trans ?_ | refine (spec_BoxesMeet.ap_of (spec_BoxesMeet.go ht _)).trans ?_ | refine (spec_SideOf.ap_of (spec_SideOf.go ht _)).trans ?_); (try dsimp only at h ⊢))
   | (simp only [decide_not, Bool.decide_and, decide_true, Bool.and_true, Bool.not_and, beqI] at h ⊢)
   | (exfalso; omega))
theorem spec_MeetsBox.go {k : Nat} {a0_0 : Int} {a0_1 : Int} {a0_2 : Int} {a0_3 : Int} {a1_0 : Int} {a1_1 : Int} {a1_2 : Int} {a1_3 : Int} {t} (h : spec_MeetsBox.f k a0_0 a0_1 a0_2 a0_3 a1_0 a1_1 a1_2 a1_3 = some t) (K : Nat) (hK : k ≤ K) : spec_MeetsBox.run K ((⟨(⟨a0_0, a0_1⟩ : S82), (⟨a0_2, a0_3⟩ : S82)⟩ : S85), (⟨(⟨a1_0, a1_1⟩ : S82), (⟨a1_2, a1_3⟩ : S82)⟩ : S98), ()) = some (spec_MeetsBox.toH t) := by
  rw [spec_MeetsBox.ef]
  (try dsimp only)
  unfold spec_MeetsBox.f at h
  repeat' (with_reducible first
   | exact nos h
   | (cases some_inj h; exact spec_MeetsBox.rt _)
   | exact (spec_MeetsBox.br _) _ (by omega) _ _ _ _ _ _ _ _ _ h
   | ((have q : spec_MeetsBox.j0 k _ _ _ _ _ _ _ _ _ = some _ := h; clear q); rcases k with _ | k <;> simp only [spec_MeetsBox.j0, reduceCtorEq] at h)
   | (simp only [Option.bind_some] at h)
   | (refine ite_by h (fun hc h => ?_) (fun hc h => ?_) <;> (try simp only [nrm] at hc))
   | refine itT ?_ (by first | assumption | omega | (simp only [nrm]; first | done | assumption | omega) | (simp only [nln] at hc ⊢; omega))
   | refine itF ?_ (by first | assumption | omega | (simp only [nrm]; first | done | assumption | omega) | (simp only [nln] at hc ⊢; omega))
   | (refine bind_by h (fun t ht h => ?_); (first | refine (spec_BoxOf.ap_of (spec_BoxOf.go ht _ (by omega))).trans ?_ | refine (spec_IsSegment.ap_of (spec_IsSegment.go ht _)).trans ?_ | refine (spec_BoxesMeet.ap_of (spec_BoxesMeet.go ht _)).trans ?_ | refine (spec_SideOf.ap_of (spec_SideOf.go ht _)).trans ?_); (try dsimp only at h ⊢))
   | (simp only [decide_not, Bool.decide_and, decide_true, Bool.and_true, Bool.not_and, beqI] at h ⊢)
   | (exfalso; omega))
def spec_l20Pieces.Fs : List (Spc env) := [spec_InBox.spec, spec_MeetsBox.spec]
def spec_l20Pieces.fin : St eΓ → Option (HL eΓ [.l 110 (.st .s110)]) := finR env Try.f97.results.toList [.l 110 (.st .s110)]
def spec_l20Pieces.cut : Nat → Option (List (Lv SC)) := lk [(5, [⟨1, none, false⟩, ⟨3, none, false⟩, ⟨5, none, false⟩, ⟨7, none, false⟩, ⟨8, none, false⟩])]
def spec_l20Pieces.ret (r0 : List S110) : Option (HL eΓ [.l 110 (.st .s110)]) := some (r0, ())
def spec_l20Pieces.p5 (k : Nat) (x8 : Int) (x1 : List S85) (b1_0 : Int) (b1_1 : Int) (b1_2 : Int) (b1_3 : ByteArray) (b2_0 : Int) (b2_1 : Int) (b2_2 : Int) (b2_3 : Int) (x7 : List S110) (b4 : List S82) : Option (HL eΓ [.l 110 (.st .s110)]) := evM env spec_l20Pieces.Fs Try.f97.ntmps spec_l20Pieces.fin spec_l20Pieces.cut k [.code (sub_ [1, 1, 1, 0, 1, 0, 0, 0, 0] (bodyOf Try.f97)), .code (sub_ [1, 1, 1, 0, 1, 0, 0, 0, 1] (bodyOf Try.f97)), .code (sub_ [1, 1, 1, 0, 1, 0, 0, 1] (bodyOf Try.f97)), .lp (sub_ [1, 1, 1, 0, 1, 0, 0] (bodyOf Try.f97)), .blk 0, .code (sub_ [1, 1, 1, 1] (bodyOf Try.f97))] (mkSt [(1, .c (.sl 0)), (3, .c (.ptr 1 0)), (5, .c (.ptr 2 0)), (7, .c (.sl 3)), (8, .c (.v (.int .i64 x8)))] [.row .ro 85 (.st .s85) x1, .box 29 [.v (.int .i64 b1_0), .v (.int .i64 b1_1), .v (.int .i64 b1_2), .v (.string b1_3), .sl 4], .box 98 [.v (.int .i64 b2_0), .v (.int .i64 b2_1), .v (.int .i64 b2_2), .v (.int .i64 b2_3)], .row .own 110 (.st .s110) x7, .row .ro 82 (.st .s82) b4])
theorem spec_l20Pieces.e5 (k : Nat) (x8 : Int) (x1 : List S85) (b1_0 : Int) (b1_1 : Int) (b1_2 : Int) (b1_3 : ByteArray) (b2_0 : Int) (b2_1 : Int) (b2_2 : Int) (b2_3 : Int) (x7 : List S110) (b4 : List S82) : spec_l20Pieces.p5 (k + 1) x8 x1 b1_0 b1_1 b1_2 b1_3 b2_0 b2_1 b2_2 b2_3 x7 b4 = if x8 < (x1.length : Int) then (if 0 ≤ x8 then (if x8 < (x1.length : Int) then (spec_MeetsBox.ap k (⟨(⟨(rd_T85 x1 x8).f0.f0, (rd_T85 x1 x8).f0.f1⟩ : S82), (⟨(rd_T85 x1 x8).f1.f0, (rd_T85 x1 x8).f1.f1⟩ : S82)⟩ : S85) (⟨(⟨b2_0, b2_1⟩ : S82), (⟨b2_2, b2_3⟩ : S82)⟩ : S98) fun r1 => if r1 = true then (if (x7.length + 1) * 16 ≤ 140737488355328 then (spec_l20Pieces.p5 k (wrap64 (x8 + 1)) x1 b1_0 b1_1 b1_2 b1_3 b2_0 b2_1 b2_2 b2_3 (x7 ++ [(⟨b1_0, x8⟩ : S110)]) b4) else none) else (spec_l20Pieces.p5 k (wrap64 (x8 + 1)) x1 b1_0 b1_1 b1_2 b1_3 b2_0 b2_1 b2_2 b2_3 x7 b4)) else none) else none) else (spec_l20Pieces.ret x7) := by kernel_rfl
def spec_l20Pieces.run (k : Nat) (h : HL eΓ [.st .s29, .l 85 (.st .s85), .st .s98]) : Option (HL eΓ [.l 110 (.st .s110)]) := evF env spec_l20Pieces.Fs Try.f97 spec_l20Pieces.cut [.st .s29, .l 85 (.st .s85), .st .s98] [.l 110 (.st .s110)] k h
theorem spec_l20Pieces.ef (k : Nat) (h0 : S29) (h1 : List S85) (h2 : S98) : spec_l20Pieces.run k (h0, h1, h2, ()) = if h0.f1 = 1 then (if 0 < (h0.f4.length : Int) then (spec_InBox.ap k (⟨(⟨h2.f0.f0, h2.f0.f1⟩ : S82), (⟨h2.f1.f0, h2.f1.f1⟩ : S82)⟩ : S98) (⟨(rd_T82 h0.f4 0).f0, (rd_T82 h0.f4 0).f1⟩ : S82) fun r1 => if r1 = true then (spec_l20Pieces.ret ([(⟨h0.f0, 0⟩ : S110)] : List S110)) else (spec_l20Pieces.p5 k 0 h1 h0.f0 h0.f1 h0.f2 h0.f3 h2.f0.f0 h2.f0.f1 h2.f1.f0 h2.f1.f1 ([] : List S110) h0.f4)) else none) else (spec_l20Pieces.p5 k 0 h1 h0.f0 h0.f1 h0.f2 h0.f3 h2.f0.f0 h2.f0.f1 h2.f1.f0 h2.f1.f1 ([] : List S110) h0.f4) := by kernel_rfl
def spec_l20Pieces.toH (t : (List (S110))) : HL eΓ [.l 110 (.st .s110)] := (t, ())
def spec_l20Pieces.spec : Spc env := ⟨97, [.st .s29, .l 85 (.st .s85), .st .s98], [.l 110 (.st .s110)], spec_l20Pieces.run⟩
def spec_l20Pieces.ap {R : Type} (k : Nat) (h0 : S29) (h1 : List S85) (h2 : S98) (K : (List S110) → Option R) : Option R := (spec_l20Pieces.run k (h0, h1, h2, ())).bind fun r => K (r.1 : List S110)
theorem spec_l20Pieces.ap_of {R : Type} {k : Nat} {h0 : S29} {h1 : List S85} {h2 : S98} {r0 : List S110} {K : (List S110) → Option R} (h : spec_l20Pieces.run k (h0, h1, h2, ()) = some (r0, ())) : spec_l20Pieces.ap k h0 h1 h2 K = K r0 := by unfold spec_l20Pieces.ap; rw [h]; rfl
theorem spec_l20Pieces.snd : Snd env spec_l20Pieces.spec := evF_snd env_ok (sndC spec_InBox.snd (sndC spec_MeetsBox.snd (sndN))) (by kernel_rfl) (by kernel_rfl) (by kernel_rfl)
attribute [local irreducible] spec_l20Pieces.run
theorem spec_l20Pieces.rt (a0 : List S110) : spec_l20Pieces.ret a0 = some (spec_l20Pieces.toH (a0)) := rfl
theorem spec_l20Pieces.br (n : Nat) : (∀ K, n ≤ K → ∀ (x8 : Int) (x1 : List S85) (b1_0 : Int) (b1_1 : Int) (b1_2 : Int) (b1_3 : ByteArray) (b2_0 : Int) (b2_1 : Int) (b2_2 : Int) (b2_3 : Int) (x7 : List S110) (b4 : List S82) t, spec_l20Pieces.l0 n x1 x7 x8 b1_0 b1_1 b1_2 b1_3 b4 b2_0 b2_1 b2_2 b2_3 = some t → spec_l20Pieces.p5 K x8 x1 b1_0 b1_1 b1_2 b1_3 b2_0 b2_1 b2_2 b2_3 x7 b4 = some (spec_l20Pieces.toH t)) := by
  induction n using Nat.strongRecOn with
  | _ n ih =>
  intro K hK x8 x1 b1_0 b1_1 b1_2 b1_3 b2_0 b2_1 b2_2 b2_3 x7 b4 t h
  all_goals (rcases n with _ | k)
  all_goals (try (exact nos h))
  all_goals (obtain ⟨K, rfl⟩ : ∃ q, K = q + 1 := ⟨K - 1, by omega⟩)
  all_goals (first | rw [spec_l20Pieces.e5])
  all_goals (simp only [spec_l20Pieces.l0] at h)
  repeat' (with_reducible first
   | exact nos h
   | (cases some_inj h; exact spec_l20Pieces.rt _)
   | exact (ih _ (by omega)) _ (by omega) _ _ _ _ _ _ _ _ _ _ _ _ _ h
   | ((have q : spec_l20Pieces.j0 k _ _ _ _ _ _ _ _ _ _ _ _ = some _ := h; clear q); rcases k with _ | k <;> simp only [spec_l20Pieces.j0, reduceCtorEq] at h)
   | (simp only [Option.bind_some] at h)
   | (refine ite_by h (fun hc h => ?_) (fun hc h => ?_) <;> (try simp only [nrm] at hc))
   | refine itT ?_ (by first | assumption | omega | (simp only [nrm]; first | done | assumption | omega) | (simp only [nln] at hc ⊢; omega))
   | refine itF ?_ (by first | assumption | omega | (simp only [nrm]; first | done | assumption | omega) | (simp only [nln] at hc ⊢; omega))
   | (refine bind_by h (fun t ht h => ?_); (first | refine (spec_InBox.ap_of (spec_InBox.go ht _)).trans ?_ | refine (spec_MeetsBox.ap_of (spec_MeetsBox.go ht _ (by omega))).trans ?_); (try dsimp only at h ⊢))
   | (simp only [decide_not, Bool.decide_and, decide_true, Bool.and_true, Bool.not_and, beqI] at h ⊢)
   | (exfalso; omega))
theorem spec_l20Pieces.go {k : Nat} {a0_0 : Int} {a0_1 : Int} {a0_2 : Int} {a0_3 : ByteArray} {l0_4 : List S82} {l1 : List S85} {a2_0 : Int} {a2_1 : Int} {a2_2 : Int} {a2_3 : Int} {t} (h : spec_l20Pieces.f k a0_0 a0_1 a0_2 a0_3 l0_4 l1 a2_0 a2_1 a2_2 a2_3 = some t) (K : Nat) (hK : k ≤ K) : spec_l20Pieces.run K ((⟨a0_0, a0_1, a0_2, a0_3, l0_4⟩ : S29), l1, (⟨(⟨a2_0, a2_1⟩ : S82), (⟨a2_2, a2_3⟩ : S82)⟩ : S98), ()) = some (spec_l20Pieces.toH t) := by
  rw [spec_l20Pieces.ef]
  (try dsimp only)
  unfold spec_l20Pieces.f at h
  repeat' (with_reducible first
   | exact nos h
   | (cases some_inj h; exact spec_l20Pieces.rt _)
   | exact (spec_l20Pieces.br _) _ (by omega) _ _ _ _ _ _ _ _ _ _ _ _ _ h
   | ((have q : spec_l20Pieces.j0 k _ _ _ _ _ _ _ _ _ _ _ _ = some _ := h; clear q); rcases k with _ | k <;> simp only [spec_l20Pieces.j0, reduceCtorEq] at h)
   | (simp only [Option.bind_some] at h)
   | (refine ite_by h (fun hc h => ?_) (fun hc h => ?_) <;> (try simp only [nrm] at hc))
   | refine itT ?_ (by first | assumption | omega | (simp only [nrm]; first | done | assumption | omega) | (simp only [nln] at hc ⊢; omega))
   | refine itF ?_ (by first | assumption | omega | (simp only [nrm]; first | done | assumption | omega) | (simp only [nln] at hc ⊢; omega))
   | (refine bind_by h (fun t ht h => ?_); (first | refine (spec_InBox.ap_of (spec_InBox.go ht _)).trans ?_ | refine (spec_MeetsBox.ap_of (spec_MeetsBox.go ht _ (by omega))).trans ?_); (try dsimp only at h ⊢))
   | (simp only [decide_not, Bool.decide_and, decide_true, Bool.and_true, Bool.not_and, beqI] at h ⊢)
   | (exfalso; omega))
def spec_PiecesIn.Fs : List (Spc env) := [spec_TileBox.spec, spec_IsSource.spec, spec_PartsOf.spec, spec_l20Pieces.spec]
def spec_PiecesIn.fin : St eΓ → Option (HL eΓ [.l 110 (.st .s110)]) := finR env Try.f52.results.toList [.l 110 (.st .s110)]
def spec_PiecesIn.cut : Nat → Option (List (Lv SC)) := lk [(4, [⟨0, none, false⟩, ⟨5, none, false⟩, ⟨6, none, false⟩, ⟨7, none, false⟩, ⟨8, none, false⟩])]
def spec_PiecesIn.ret (r0 : List S110) : Option (HL eΓ [.l 110 (.st .s110)]) := some (r0, ())
def spec_PiecesIn.p4 (k : Nat) (x7 : Bool) (x8 : Int) (x0 : List S29) (x5 : List S110) (b2_0 : Int) (b2_1 : Int) (b2_2 : Int) (b2_3 : Int) : Option (HL eΓ [.l 110 (.st .s110)]) := evM env spec_PiecesIn.Fs Try.f52.ntmps spec_PiecesIn.fin spec_PiecesIn.cut k [.code (sub_ [1, 1, 1, 0, 1, 0, 0, 0, 0] (bodyOf Try.f52)), .code (sub_ [1, 1, 1, 0, 1, 0, 0, 0, 1] (bodyOf Try.f52)), .code (sub_ [1, 1, 1, 0, 1, 0, 0, 1] (bodyOf Try.f52)), .lp (sub_ [1, 1, 1, 0, 1, 0, 0] (bodyOf Try.f52)), .blk 0, .code (sub_ [1, 1, 1, 1] (bodyOf Try.f52))] (mkSt [(0, .c (.sl 0)), (5, .c (.sl 1)), (6, .c (.ptr 2 0)), (7, .c (.v (.bool x7))), (8, .c (.v (.int .i64 x8)))] [.row .ro 29 (.st .s29) x0, .row .own 110 (.st .s110) x5, .box 98 [.v (.int .i64 b2_0), .v (.int .i64 b2_1), .v (.int .i64 b2_2), .v (.int .i64 b2_3)]])
theorem spec_PiecesIn.e4 (k : Nat) (x7 : Bool) (x8 : Int) (x0 : List S29) (x5 : List S110) (b2_0 : Int) (b2_1 : Int) (b2_2 : Int) (b2_3 : Int) : spec_PiecesIn.p4 (k + 1) x7 x8 x0 x5 b2_0 b2_1 b2_2 b2_3 = if x8 < (x0.length : Int) then (if x7 = true then (spec_IsSource.ap k x0 fun r1 => if r1 = true then (if 0 ≤ x8 then (if x8 < (x0.length : Int) then (if 0 ≤ x8 then (if x8 < (x0.length : Int) then (spec_PartsOf.ap k (⟨(rd_T29 x0 x8).f0, (rd_T29 x0 x8).f1, (rd_T29 x0 x8).f2, (rd_T29 x0 x8).f3, (rd_T29 x0 x8).f4⟩ : S29) fun r2 => spec_l20Pieces.ap k (⟨(rd_T29 x0 x8).f0, (rd_T29 x0 x8).f1, (rd_T29 x0 x8).f2, (rd_T29 x0 x8).f3, (rd_T29 x0 x8).f4⟩ : S29) r2 (⟨(⟨b2_0, b2_1⟩ : S82), (⟨b2_2, b2_3⟩ : S82)⟩ : S98) fun r3 => if (x5.length + r3.length) * 16 ≤ 140737488355328 then (spec_PiecesIn.p4 k x7 (wrap64 (x8 + 1)) x0 (x5 ++ r3) b2_0 b2_1 b2_2 b2_3) else none) else none) else none) else none) else none) else (spec_PiecesIn.ret x5)) else (spec_PiecesIn.ret x5)) else (spec_PiecesIn.ret x5) := by kernel_rfl
def spec_PiecesIn.run (k : Nat) (h : HL eΓ [.l 29 (.st .s29), .i .i64]) : Option (HL eΓ [.l 110 (.st .s110)]) := evF env spec_PiecesIn.Fs Try.f52 spec_PiecesIn.cut [.l 29 (.st .s29), .i .i64] [.l 110 (.st .s110)] k h
theorem spec_PiecesIn.ef (k : Nat) (h0 : List S29) (h1 : Int) : spec_PiecesIn.run k (h0, h1, ()) = spec_TileBox.ap k h1 fun r1_0 r1_1 => spec_PiecesIn.p4 k r1_1 0 h0 ([] : List S110) r1_0.f0.f0 r1_0.f0.f1 r1_0.f1.f0 r1_0.f1.f1 := by kernel_rfl
def spec_PiecesIn.toH (t : (List (S110))) : HL eΓ [.l 110 (.st .s110)] := (t, ())
def spec_PiecesIn.spec : Spc env := ⟨52, [.l 29 (.st .s29), .i .i64], [.l 110 (.st .s110)], spec_PiecesIn.run⟩
theorem spec_PiecesIn.snd : Snd env spec_PiecesIn.spec := evF_snd env_ok (sndC spec_TileBox.snd (sndC spec_IsSource.snd (sndC spec_PartsOf.snd (sndC spec_l20Pieces.snd (sndN))))) (by kernel_rfl) (by kernel_rfl) (by kernel_rfl)
attribute [local irreducible] spec_PiecesIn.run
theorem spec_PiecesIn.rt (a0 : List S110) : spec_PiecesIn.ret a0 = some (spec_PiecesIn.toH (a0)) := rfl
theorem spec_PiecesIn.br (n : Nat) : (∀ K, n ≤ K → ∀ (x7 : Bool) (x8 : Int) (x0 : List S29) (x5 : List S110) (b2_0 : Int) (b2_1 : Int) (b2_2 : Int) (b2_3 : Int) t, spec_PiecesIn.l0 n x0 x5 x7 x8 b2_0 b2_1 b2_2 b2_3 = some t → spec_PiecesIn.p4 K x7 x8 x0 x5 b2_0 b2_1 b2_2 b2_3 = some (spec_PiecesIn.toH t)) := by
  induction n using Nat.strongRecOn with
  | _ n ih =>
  intro K hK x7 x8 x0 x5 b2_0 b2_1 b2_2 b2_3 t h
  all_goals (rcases n with _ | k)
  all_goals (try (exact nos h))
  all_goals (obtain ⟨K, rfl⟩ : ∃ q, K = q + 1 := ⟨K - 1, by omega⟩)
  all_goals (first | rw [spec_PiecesIn.e4])
  all_goals (simp only [spec_PiecesIn.l0] at h)
  repeat' (with_reducible first
   | exact nos h
   | (cases some_inj h; exact spec_PiecesIn.rt _)
   | exact (ih _ (by omega)) _ (by omega) _ _ _ _ _ _ _ _ _ h
   | ((have q : spec_PiecesIn.j1 k _ _ _ _ _ _ _ _ _ = some _ := h; clear q); rcases k with _ | k <;> simp only [spec_PiecesIn.j1, reduceCtorEq] at h)
   | (simp only [Option.bind_some] at h)
   | (refine ite_by h (fun hc h => ?_) (fun hc h => ?_) <;> (try simp only [nrm] at hc))
   | refine itT ?_ (by first | assumption | omega | (simp only [nrm]; first | done | assumption | omega) | (simp only [nln] at hc ⊢; omega))
   | refine itF ?_ (by first | assumption | omega | (simp only [nrm]; first | done | assumption | omega) | (simp only [nln] at hc ⊢; omega))
   | (refine bind_by h (fun t ht h => ?_); (first | refine (spec_TileBox.ap_of (spec_TileBox.go ht _)).trans ?_ | refine (spec_IsSource.ap_of (spec_IsSource.go ht _ (by omega))).trans ?_ | refine (spec_PartsOf.ap_of (spec_PartsOf.go ht _ (by omega))).trans ?_ | refine (spec_l20Pieces.ap_of (spec_l20Pieces.go ht _ (by omega))).trans ?_); (try dsimp only at h ⊢))
   | (simp only [decide_not, Bool.decide_and, decide_true, Bool.and_true, Bool.not_and, beqI] at h ⊢)
   | (exfalso; omega))
theorem spec_PiecesIn.go {k : Nat} {l0 : List S29} {a1 : Int} {t} (h : spec_PiecesIn.f k l0 a1 = some t) (K : Nat) (hK : k ≤ K) : spec_PiecesIn.run K (l0, a1, ()) = some (spec_PiecesIn.toH t) := by
  rw [spec_PiecesIn.ef]
  (try dsimp only)
  unfold spec_PiecesIn.f at h
  repeat' (with_reducible first
   | exact nos h
   | (cases some_inj h; exact spec_PiecesIn.rt _)
   | exact (spec_PiecesIn.br _) _ (by omega) _ _ _ _ _ _ _ _ _ h
   | ((have q : spec_PiecesIn.j1 k _ _ _ _ _ _ _ _ _ = some _ := h; clear q); rcases k with _ | k <;> simp only [spec_PiecesIn.j1, reduceCtorEq] at h)
   | (simp only [Option.bind_some] at h)
   | (refine ite_by h (fun hc h => ?_) (fun hc h => ?_) <;> (try simp only [nrm] at hc))
   | refine itT ?_ (by first | assumption | omega | (simp only [nrm]; first | done | assumption | omega) | (simp only [nln] at hc ⊢; omega))
   | refine itF ?_ (by first | assumption | omega | (simp only [nrm]; first | done | assumption | omega) | (simp only [nln] at hc ⊢; omega))
   | (refine bind_by h (fun t ht h => ?_); (first | refine (spec_TileBox.ap_of (spec_TileBox.go ht _)).trans ?_ | refine (spec_IsSource.ap_of (spec_IsSource.go ht _ (by omega))).trans ?_ | refine (spec_PartsOf.ap_of (spec_PartsOf.go ht _ (by omega))).trans ?_ | refine (spec_l20Pieces.ap_of (spec_l20Pieces.go ht _ (by omega))).trans ?_); (try dsimp only at h ⊢))
   | (simp only [decide_not, Bool.decide_and, decide_true, Bool.and_true, Bool.not_and, beqI] at h ⊢)
   | (exfalso; omega))
theorem spec_PiecesIn.calls (k : Nat) (A0 : Option Addr) (c0 : Nat) (l0 : List (S29)) (a1 : Int) (r : List (S110)) (w : World) (hr0 : Kd.C k29 w A0 l0.length l0) (hc0 : l0.length ≤ c0) (h : spec_PiecesIn.f k l0 a1 = some r) :
  Calls Try.prog 52 #[.slice A0 l0.length c0, .int .i64 a1] w fun e w' => ∃ v0_ : Value, e = .returned (v0_) ∧ Kd.R k110 110 w' w.heap.size (fun _ => True) v0_ r ∧ Below w.heap.size w w' := by
  refine (spec_PiecesIn.snd.calls _ _ _ (spec_PiecesIn.go h k (Nat.le_refl k)) w [.slice A0 l0.length c0, .int .i64 a1] ⟨⟨_, _, rfl, hc0, hr0⟩, rfl, trivial⟩).mono ?_
  rintro e w' ⟨v, rfl, hB, vs, oks, rfl, hR, _⟩
  obtain ⟨x0_, vs, o0_, oks, rfl, rfl, m0_, hR⟩ := rmsC hR
  obtain rfl := rmsN hR
  obtain ⟨x0_v, x0_e, x0_R⟩ := m0_
  obtain rfl := List.singleton_inj.1 x0_e
  exact ⟨_, rfl, Kd.R_mono x0_R (fun _ _ => trivial), hB⟩
def impl_InRange.toH (t : Bool) : HL eΓ [.b] := (t, ())
def impl_InRange.run (k : Nat) (h : HL eΓ [.i .i64, .i .i64, .i .i64]) : Option (HL eΓ [.b]) := (impl_InRange.f (h.1 : Int) (h.2.1 : Int) (h.2.2.1 : Int)).map impl_InRange.toH
def impl_InRange.spec : Spc env := ⟨112, [.i .i64, .i .i64, .i .i64], [.b], impl_InRange.run⟩
def impl_InRange.ap {R : Type} (k : Nat) (h0 : Int) (h1 : Int) (h2 : Int) (K : Bool → Option R) : Option R := (impl_InRange.run k (h0, h1, h2, ())).bind fun r => K (r.1 : Bool)
theorem impl_InRange.ap_of {R : Type} {k : Nat} {h0 : Int} {h1 : Int} {h2 : Int} {r0 : Bool} {K : Bool → Option R} (h : impl_InRange.run k (h0, h1, h2, ()) = some (r0, ())) : impl_InRange.ap k h0 h1 h2 K = K r0 := by unfold impl_InRange.ap; rw [h]; rfl
theorem impl_InRange.go {a0 : Int} {a1 : Int} {a2 : Int} {t} (h : impl_InRange.f a0 a1 a2 = some t) (K : Nat) : impl_InRange.run K (a0, a1, a2, ()) = some (impl_InRange.toH t) := by
  show Option.map _ (impl_InRange.f a0 a1 a2) = _
  rw [h]; rfl
theorem impl_InRange.snd : Snd env impl_InRange.spec := ⟨⟨Try.f112, by kernel_rfl, by kernel_rfl, by kernel_rfl⟩, fun k h r he w us hA => by
  obtain ⟨t, ht, rfl⟩ := Option.map_eq_some_iff.1 (show (impl_InRange.f (h.1 : Int) (h.2.1 : Int) (h.2.2.1 : Int)).map impl_InRange.toH = some r from he)
  match us, hA with
  | [u0, u1, u2], ⟨q0, q1, q2, _⟩ =>
  obtain rfl := List.singleton_inj.1 (show [u0] = [Value.int .i64 (h.1 : Int)] from q0)
  obtain rfl := List.singleton_inj.1 (show [u1] = [Value.int .i64 (h.2.1 : Int)] from q1)
  obtain rfl := List.singleton_inj.1 (show [u2] = [Value.int .i64 (h.2.2.1 : Int)] from q2)
  refine (impl_InRange.calls (w := w) (h := ht) ).mono ?_
  rintro e w' ⟨he, hw⟩
  exact ⟨_, he, (by obtain ⟨_, rfl⟩ := hw; exact Below.refl _ _), [.bool t], [fun _ => False], rfl, ⟨rfl, trivial⟩, by simp [DJ]⟩⟩
def impl_around.Fs : List (Spc env) := []
def impl_around.fin : St eΓ → Option (HL eΓ [.l 85 (.st .s85)]) := finR env Try.f150.results.toList [.l 85 (.st .s85)]
def impl_around.cut : Nat → Option (List (Lv SC)) := lk [(3, [⟨0, none, false⟩, ⟨3, none, false⟩, ⟨7, none, false⟩, ⟨8, none, false⟩, ⟨9, none, false⟩])]
def impl_around.ret (r0 : List S85) : Option (HL eΓ [.l 85 (.st .s85)]) := some (r0, ())
def impl_around.p3 (k : Nat) (x8 : Int) (x9 : Int) (x0 : List S82) (x3 : List S85) : Option (HL eΓ [.l 85 (.st .s85)]) := evM env impl_around.Fs Try.f150.ntmps impl_around.fin impl_around.cut k [.code (sub_ [1, 1, 0, 1, 0, 0, 0] (bodyOf Try.f150)), .code (sub_ [1, 1, 0, 1, 0, 0, 1] (bodyOf Try.f150)), .lp (sub_ [1, 1, 0, 1, 0, 0] (bodyOf Try.f150)), .blk 0, .code (sub_ [1, 1, 1] (bodyOf Try.f150))] (mkSt [(0, .c (.sl 0)), (3, .c (.sl 1)), (7, .c (.sl 0)), (8, .c (.v (.int .i64 x8))), (9, .c (.v (.int .i64 x9)))] [.row .ro 82 (.st .s82) x0, .row .own 85 (.st .s85) x3])
theorem impl_around.e3 (k : Nat) (x8 : Int) (x9 : Int) (x0 : List S82) (x3 : List S85) : impl_around.p3 (k + 1) x8 x9 x0 x3 = if x9 < x8 then (if 0 ≤ x9 then (if x9 < (x0.length : Int) then (if (x0.length : Int) = 0 then none else (if 0 ≤ (Int.tmod (wrap64 (x9 + 1)) (x0.length : Int)) then (if (Int.tmod (wrap64 (x9 + 1)) (x0.length : Int)) < (x0.length : Int) then (if (x3.length + 1) * 32 ≤ 140737488355328 then (impl_around.p3 k x8 (wrap64 (x9 + 1)) x0 (x3 ++ [(⟨(⟨(rd_T82 x0 x9).f0, (rd_T82 x0 x9).f1⟩ : S82), (⟨(rd_T82 x0 (Int.tmod (wrap64 (x9 + 1)) (x0.length : Int))).f0, (rd_T82 x0 (Int.tmod (wrap64 (x9 + 1)) (x0.length : Int))).f1⟩ : S82)⟩ : S85)])) else none) else none) else none)) else none) else none) else (impl_around.ret x3) := by kernel_rfl
def impl_around.run (k : Nat) (h : HL eΓ [.l 82 (.st .s82)]) : Option (HL eΓ [.l 85 (.st .s85)]) := evF env impl_around.Fs Try.f150 impl_around.cut [.l 82 (.st .s82)] [.l 85 (.st .s85)] k h
theorem impl_around.ef (k : Nat) (h0 : List S82) : impl_around.run k (h0, ()) = impl_around.p3 k (h0.length : Int) 0 h0 ([] : List S85) := by kernel_rfl
def impl_around.toH (t : (List (S85))) : HL eΓ [.l 85 (.st .s85)] := (t, ())
def impl_around.spec : Spc env := ⟨150, [.l 82 (.st .s82)], [.l 85 (.st .s85)], impl_around.run⟩
def impl_around.ap {R : Type} (k : Nat) (h0 : List S82) (K : (List S85) → Option R) : Option R := (impl_around.run k (h0, ())).bind fun r => K (r.1 : List S85)
theorem impl_around.ap_of {R : Type} {k : Nat} {h0 : List S82} {r0 : List S85} {K : (List S85) → Option R} (h : impl_around.run k (h0, ()) = some (r0, ())) : impl_around.ap k h0 K = K r0 := by unfold impl_around.ap; rw [h]; rfl
theorem impl_around.snd : Snd env impl_around.spec := evF_snd env_ok (sndN) (by kernel_rfl) (by kernel_rfl) (by kernel_rfl)
attribute [local irreducible] impl_around.run
theorem impl_around.rt (a0 : List S85) : impl_around.ret a0 = some (impl_around.toH (a0)) := rfl
theorem impl_around.br (n : Nat) : (∀ K, n ≤ K → ∀ (x8 : Int) (x9 : Int) (x0 : List S82) (x3 : List S85) t, impl_around.l0 n x0 x3 x0 x8 x9 = some t → impl_around.p3 K x8 x9 x0 x3 = some (impl_around.toH t)) := by
  induction n using Nat.strongRecOn with
  | _ n ih =>
  intro K hK x8 x9 x0 x3 t h
  all_goals (rcases n with _ | k)
  all_goals (try (exact nos h))
  all_goals (obtain ⟨K, rfl⟩ : ∃ q, K = q + 1 := ⟨K - 1, by omega⟩)
  all_goals (first | rw [impl_around.e3])
  all_goals (simp only [impl_around.l0] at h)
  repeat' (with_reducible first
   | exact nos h
   | (cases some_inj h; exact impl_around.rt _)
   | exact (ih _ (by omega)) _ (by omega) _ _ _ _ _ h
   | (simp only [Option.bind_some] at h)
   | (refine ite_by h (fun hc h => ?_) (fun hc h => ?_) <;> (try simp only [nrm] at hc))
   | refine itT ?_ (by first | assumption | omega | (simp only [nrm]; first | done | assumption | omega) | (simp only [nln] at hc ⊢; omega))
   | refine itF ?_ (by first | assumption | omega | (simp only [nrm]; first | done | assumption | omega) | (simp only [nln] at hc ⊢; omega))
   | (simp only [decide_not, Bool.decide_and, decide_true, Bool.and_true, Bool.not_and, beqI] at h ⊢)
   | (exfalso; omega))
theorem impl_around.go {k : Nat} {l0 : List S82} {t} (h : impl_around.f k l0 = some t) (K : Nat) (hK : k ≤ K) : impl_around.run K (l0, ()) = some (impl_around.toH t) := by
  rw [impl_around.ef]
  (try dsimp only)
  unfold impl_around.f at h
  repeat' (with_reducible first
   | exact nos h
   | (cases some_inj h; exact impl_around.rt _)
   | exact (impl_around.br _) _ (by omega) _ _ _ _ _ h
   | (simp only [Option.bind_some] at h)
   | (refine ite_by h (fun hc h => ?_) (fun hc h => ?_) <;> (try simp only [nrm] at hc))
   | refine itT ?_ (by first | assumption | omega | (simp only [nrm]; first | done | assumption | omega) | (simp only [nln] at hc ⊢; omega))
   | refine itF ?_ (by first | assumption | omega | (simp only [nrm]; first | done | assumption | omega) | (simp only [nln] at hc ⊢; omega))
   | (simp only [decide_not, Bool.decide_and, decide_true, Bool.and_true, Bool.not_and, beqI] at h ⊢)
   | (exfalso; omega))
def impl_IsPoint.toH (t : Bool) : HL eΓ [.b] := (t, ())
def impl_IsPoint.run (k : Nat) (h : HL eΓ [.st .s82]) : Option (HL eΓ [.b]) := (impl_IsPoint.f ((h.1 : S82).f0) ((h.1 : S82).f1)).map impl_IsPoint.toH
def impl_IsPoint.spec : Spc env := ⟨123, [.st .s82], [.b], impl_IsPoint.run⟩
def impl_IsPoint.ap {R : Type} (k : Nat) (h0 : S82) (K : Bool → Option R) : Option R := (impl_IsPoint.run k (h0, ())).bind fun r => K (r.1 : Bool)
theorem impl_IsPoint.ap_of {R : Type} {k : Nat} {h0 : S82} {r0 : Bool} {K : Bool → Option R} (h : impl_IsPoint.run k (h0, ()) = some (r0, ())) : impl_IsPoint.ap k h0 K = K r0 := by unfold impl_IsPoint.ap; rw [h]; rfl
theorem impl_IsPoint.go {a0_0 : Int} {a0_1 : Int} {t} (h : impl_IsPoint.f a0_0 a0_1 = some t) (K : Nat) : impl_IsPoint.run K ((⟨a0_0, a0_1⟩ : S82), ()) = some (impl_IsPoint.toH t) := by
  show Option.map _ (impl_IsPoint.f a0_0 a0_1) = _
  rw [h]; rfl
theorem impl_IsPoint.snd : Snd env impl_IsPoint.spec := ⟨⟨Try.f123, by kernel_rfl, by kernel_rfl, by kernel_rfl⟩, fun k h r he w us hA => by
  obtain ⟨t, ht, rfl⟩ := Option.map_eq_some_iff.1 (show (impl_IsPoint.f ((h.1 : S82).f0) ((h.1 : S82).f1)).map impl_IsPoint.toH = some r from he)
  match us, hA with
  | [u0], ⟨q0, _⟩ =>
  obtain ⟨v0, rfl, q0⟩ := q0
  have q0 := (H82.K _ _ _).1 q0
  match e0 : v0.toList, q0 with
  | [c0_0, c0_1], ⟨p0_0, p0_1, _⟩ =>
  obtain rfl : v0 = #[c0_0, c0_1] := by rw [← Array.toArray_toList (xs := v0), e0]
  obtain rfl := List.singleton_inj.1 (show [c0_0] = [Value.int .i64 ((h.1 : S82).f0)] from p0_0)
  obtain rfl := List.singleton_inj.1 (show [c0_1] = [Value.int .i64 ((h.1 : S82).f1)] from p0_1)
  refine (impl_IsPoint.calls (w := w) (h := ht) ).mono ?_
  rintro e w' ⟨he, hw⟩
  exact ⟨_, he, hw, [.bool t], [fun _ => False], rfl, ⟨rfl, trivial⟩, by simp [DJ]⟩⟩
def impl_IsSegment.toH (t : Bool) : HL eΓ [.b] := (t, ())
def impl_IsSegment.run (k : Nat) (h : HL eΓ [.st .s85]) : Option (HL eΓ [.b]) := (impl_IsSegment.f ((h.1 : S85).f0.f0) ((h.1 : S85).f0.f1) ((h.1 : S85).f1.f0) ((h.1 : S85).f1.f1)).map impl_IsSegment.toH
def impl_IsSegment.spec : Spc env := ⟨151, [.st .s85], [.b], impl_IsSegment.run⟩
def impl_IsSegment.ap {R : Type} (k : Nat) (h0 : S85) (K : Bool → Option R) : Option R := (impl_IsSegment.run k (h0, ())).bind fun r => K (r.1 : Bool)
theorem impl_IsSegment.ap_of {R : Type} {k : Nat} {h0 : S85} {r0 : Bool} {K : Bool → Option R} (h : impl_IsSegment.run k (h0, ()) = some (r0, ())) : impl_IsSegment.ap k h0 K = K r0 := by unfold impl_IsSegment.ap; rw [h]; rfl
theorem impl_IsSegment.go {a0_0 : Int} {a0_1 : Int} {a0_2 : Int} {a0_3 : Int} {t} (h : impl_IsSegment.f a0_0 a0_1 a0_2 a0_3 = some t) (K : Nat) : impl_IsSegment.run K ((⟨(⟨a0_0, a0_1⟩ : S82), (⟨a0_2, a0_3⟩ : S82)⟩ : S85), ()) = some (impl_IsSegment.toH t) := by
  show Option.map _ (impl_IsSegment.f a0_0 a0_1 a0_2 a0_3) = _
  rw [h]; rfl
theorem impl_IsSegment.snd : Snd env impl_IsSegment.spec := ⟨⟨Try.f151, by kernel_rfl, by kernel_rfl, by kernel_rfl⟩, fun k h r he w us hA => by
  obtain ⟨t, ht, rfl⟩ := Option.map_eq_some_iff.1 (show (impl_IsSegment.f ((h.1 : S85).f0.f0) ((h.1 : S85).f0.f1) ((h.1 : S85).f1.f0) ((h.1 : S85).f1.f1)).map impl_IsSegment.toH = some r from he)
  match us, hA with
  | [u0], ⟨q0, _⟩ =>
  obtain ⟨v0, rfl, q0⟩ := q0
  have q0 := (H85.K _ _ _).1 q0
  match e0 : v0.toList, q0 with
  | [c0_0, c0_1, c0_2, c0_3], ⟨p0_0, p0_1, p0_2, p0_3, _⟩ =>
  obtain rfl : v0 = #[c0_0, c0_1, c0_2, c0_3] := by rw [← Array.toArray_toList (xs := v0), e0]
  obtain rfl := List.singleton_inj.1 (show [c0_0] = [Value.int .i64 ((h.1 : S85).f0.f0)] from p0_0)
  obtain rfl := List.singleton_inj.1 (show [c0_1] = [Value.int .i64 ((h.1 : S85).f0.f1)] from p0_1)
  obtain rfl := List.singleton_inj.1 (show [c0_2] = [Value.int .i64 ((h.1 : S85).f1.f0)] from p0_2)
  obtain rfl := List.singleton_inj.1 (show [c0_3] = [Value.int .i64 ((h.1 : S85).f1.f1)] from p0_3)
  refine (impl_IsSegment.calls (w := w) (h := ht) ).mono ?_
  rintro e w' ⟨he, hw⟩
  exact ⟨_, he, hw, [.bool t], [fun _ => False], rfl, ⟨rfl, trivial⟩, by simp [DJ]⟩⟩
def impl_SideOf.toH (t : Int) : HL eΓ [.i .i64] := (t, ())
def impl_SideOf.run (k : Nat) (h : HL eΓ [.st .s82, .st .s82, .st .s82]) : Option (HL eΓ [.i .i64]) := (impl_SideOf.f ((h.1 : S82).f0) ((h.1 : S82).f1) ((h.2.1 : S82).f0) ((h.2.1 : S82).f1) ((h.2.2.1 : S82).f0) ((h.2.2.1 : S82).f1)).map impl_SideOf.toH
def impl_SideOf.spec : Spc env := ⟨167, [.st .s82, .st .s82, .st .s82], [.i .i64], impl_SideOf.run⟩
def impl_SideOf.ap {R : Type} (k : Nat) (h0 : S82) (h1 : S82) (h2 : S82) (K : Int → Option R) : Option R := (impl_SideOf.run k (h0, h1, h2, ())).bind fun r => K (r.1 : Int)
theorem impl_SideOf.ap_of {R : Type} {k : Nat} {h0 : S82} {h1 : S82} {h2 : S82} {r0 : Int} {K : Int → Option R} (h : impl_SideOf.run k (h0, h1, h2, ()) = some (r0, ())) : impl_SideOf.ap k h0 h1 h2 K = K r0 := by unfold impl_SideOf.ap; rw [h]; rfl
theorem impl_SideOf.go {a0_0 : Int} {a0_1 : Int} {a1_0 : Int} {a1_1 : Int} {a2_0 : Int} {a2_1 : Int} {t} (h : impl_SideOf.f a0_0 a0_1 a1_0 a1_1 a2_0 a2_1 = some t) (K : Nat) : impl_SideOf.run K ((⟨a0_0, a0_1⟩ : S82), (⟨a1_0, a1_1⟩ : S82), (⟨a2_0, a2_1⟩ : S82), ()) = some (impl_SideOf.toH t) := by
  show Option.map _ (impl_SideOf.f a0_0 a0_1 a1_0 a1_1 a2_0 a2_1) = _
  rw [h]; rfl
theorem impl_SideOf.snd : Snd env impl_SideOf.spec := ⟨⟨Try.f167, by kernel_rfl, by kernel_rfl, by kernel_rfl⟩, fun k h r he w us hA => by
  obtain ⟨t, ht, rfl⟩ := Option.map_eq_some_iff.1 (show (impl_SideOf.f ((h.1 : S82).f0) ((h.1 : S82).f1) ((h.2.1 : S82).f0) ((h.2.1 : S82).f1) ((h.2.2.1 : S82).f0) ((h.2.2.1 : S82).f1)).map impl_SideOf.toH = some r from he)
  match us, hA with
  | [u0, u1, u2], ⟨q0, q1, q2, _⟩ =>
  obtain ⟨v0, rfl, q0⟩ := q0
  have q0 := (H82.K _ _ _).1 q0
  match e0 : v0.toList, q0 with
  | [c0_0, c0_1], ⟨p0_0, p0_1, _⟩ =>
  obtain rfl : v0 = #[c0_0, c0_1] := by rw [← Array.toArray_toList (xs := v0), e0]
  obtain rfl := List.singleton_inj.1 (show [c0_0] = [Value.int .i64 ((h.1 : S82).f0)] from p0_0)
  obtain rfl := List.singleton_inj.1 (show [c0_1] = [Value.int .i64 ((h.1 : S82).f1)] from p0_1)
  obtain ⟨v1, rfl, q1⟩ := q1
  have q1 := (H82.K _ _ _).1 q1
  match e1 : v1.toList, q1 with
  | [c1_0, c1_1], ⟨p1_0, p1_1, _⟩ =>
  obtain rfl : v1 = #[c1_0, c1_1] := by rw [← Array.toArray_toList (xs := v1), e1]
  obtain rfl := List.singleton_inj.1 (show [c1_0] = [Value.int .i64 ((h.2.1 : S82).f0)] from p1_0)
  obtain rfl := List.singleton_inj.1 (show [c1_1] = [Value.int .i64 ((h.2.1 : S82).f1)] from p1_1)
  obtain ⟨v2, rfl, q2⟩ := q2
  have q2 := (H82.K _ _ _).1 q2
  match e2 : v2.toList, q2 with
  | [c2_0, c2_1], ⟨p2_0, p2_1, _⟩ =>
  obtain rfl : v2 = #[c2_0, c2_1] := by rw [← Array.toArray_toList (xs := v2), e2]
  obtain rfl := List.singleton_inj.1 (show [c2_0] = [Value.int .i64 ((h.2.2.1 : S82).f0)] from p2_0)
  obtain rfl := List.singleton_inj.1 (show [c2_1] = [Value.int .i64 ((h.2.2.1 : S82).f1)] from p2_1)
  refine (impl_SideOf.calls (w := w) (h := ht) ).mono ?_
  rintro e w' ⟨he, hw⟩
  exact ⟨_, he, hw, [.int .i64 t], [fun _ => False], rfl, ⟨rfl, trivial⟩, by simp [DJ]⟩⟩
def impl_BeforePoint.toH (t : Bool) : HL eΓ [.b] := (t, ())
def impl_BeforePoint.run (k : Nat) (h : HL eΓ [.st .s82, .st .s82]) : Option (HL eΓ [.b]) := (impl_BeforePoint.f ((h.1 : S82).f0) ((h.1 : S82).f1) ((h.2.1 : S82).f0) ((h.2.1 : S82).f1)).map impl_BeforePoint.toH
def impl_BeforePoint.spec : Spc env := ⟨170, [.st .s82, .st .s82], [.b], impl_BeforePoint.run⟩
def impl_BeforePoint.ap {R : Type} (k : Nat) (h0 : S82) (h1 : S82) (K : Bool → Option R) : Option R := (impl_BeforePoint.run k (h0, h1, ())).bind fun r => K (r.1 : Bool)
theorem impl_BeforePoint.ap_of {R : Type} {k : Nat} {h0 : S82} {h1 : S82} {r0 : Bool} {K : Bool → Option R} (h : impl_BeforePoint.run k (h0, h1, ()) = some (r0, ())) : impl_BeforePoint.ap k h0 h1 K = K r0 := by unfold impl_BeforePoint.ap; rw [h]; rfl
theorem impl_BeforePoint.go {a0_0 : Int} {a0_1 : Int} {a1_0 : Int} {a1_1 : Int} {t} (h : impl_BeforePoint.f a0_0 a0_1 a1_0 a1_1 = some t) (K : Nat) : impl_BeforePoint.run K ((⟨a0_0, a0_1⟩ : S82), (⟨a1_0, a1_1⟩ : S82), ()) = some (impl_BeforePoint.toH t) := by
  show Option.map _ (impl_BeforePoint.f a0_0 a0_1 a1_0 a1_1) = _
  rw [h]; rfl
theorem impl_BeforePoint.snd : Snd env impl_BeforePoint.spec := ⟨⟨Try.f170, by kernel_rfl, by kernel_rfl, by kernel_rfl⟩, fun k h r he w us hA => by
  obtain ⟨t, ht, rfl⟩ := Option.map_eq_some_iff.1 (show (impl_BeforePoint.f ((h.1 : S82).f0) ((h.1 : S82).f1) ((h.2.1 : S82).f0) ((h.2.1 : S82).f1)).map impl_BeforePoint.toH = some r from he)
  match us, hA with
  | [u0, u1], ⟨q0, q1, _⟩ =>
  obtain ⟨v0, rfl, q0⟩ := q0
  have q0 := (H82.K _ _ _).1 q0
  match e0 : v0.toList, q0 with
  | [c0_0, c0_1], ⟨p0_0, p0_1, _⟩ =>
  obtain rfl : v0 = #[c0_0, c0_1] := by rw [← Array.toArray_toList (xs := v0), e0]
  obtain rfl := List.singleton_inj.1 (show [c0_0] = [Value.int .i64 ((h.1 : S82).f0)] from p0_0)
  obtain rfl := List.singleton_inj.1 (show [c0_1] = [Value.int .i64 ((h.1 : S82).f1)] from p0_1)
  obtain ⟨v1, rfl, q1⟩ := q1
  have q1 := (H82.K _ _ _).1 q1
  match e1 : v1.toList, q1 with
  | [c1_0, c1_1], ⟨p1_0, p1_1, _⟩ =>
  obtain rfl : v1 = #[c1_0, c1_1] := by rw [← Array.toArray_toList (xs := v1), e1]
  obtain rfl := List.singleton_inj.1 (show [c1_0] = [Value.int .i64 ((h.2.1 : S82).f0)] from p1_0)
  obtain rfl := List.singleton_inj.1 (show [c1_1] = [Value.int .i64 ((h.2.1 : S82).f1)] from p1_1)
  refine (impl_BeforePoint.calls (w := w) (h := ht) ).mono ?_
  rintro e w' ⟨he, hw⟩
  exact ⟨_, he, hw, [.bool t], [fun _ => False], rfl, ⟨rfl, trivial⟩, by simp [DJ]⟩⟩
def impl_TurnSegment.Fs : List (Spc env) := []
def impl_TurnSegment.cut : Nat → Option (List (Lv SC)) := lk []
def impl_TurnSegment.ret (r0 : S85) : Option (HL eΓ [.st .s85]) := some (r0, ())
def impl_TurnSegment.run (k : Nat) (h : HL eΓ [.st .s85]) : Option (HL eΓ [.st .s85]) := evF env impl_TurnSegment.Fs Try.f174 impl_TurnSegment.cut [.st .s85] [.st .s85] k h
theorem impl_TurnSegment.ef (k : Nat) (h0 : S85) : impl_TurnSegment.run k (h0, ()) = impl_TurnSegment.ret (⟨(⟨h0.f1.f0, h0.f1.f1⟩ : S82), (⟨h0.f0.f0, h0.f0.f1⟩ : S82)⟩ : S85) := by kernel_rfl
def impl_TurnSegment.toH (t : Int × Int × Int × Int) : HL eΓ [.st .s85] := ((⟨(⟨t.1, t.2.1⟩ : S82), (⟨t.2.2.1, t.2.2.2⟩ : S82)⟩ : S85), ())
def impl_TurnSegment.spec : Spc env := ⟨174, [.st .s85], [.st .s85], impl_TurnSegment.run⟩
def impl_TurnSegment.ap {R : Type} (k : Nat) (h0 : S85) (K : S85 → Option R) : Option R := (impl_TurnSegment.run k (h0, ())).bind fun r => K (r.1 : S85)
theorem impl_TurnSegment.ap_of {R : Type} {k : Nat} {h0 : S85} {r0 : S85} {K : S85 → Option R} (h : impl_TurnSegment.run k (h0, ()) = some (r0, ())) : impl_TurnSegment.ap k h0 K = K r0 := by unfold impl_TurnSegment.ap; rw [h]; rfl
theorem impl_TurnSegment.snd : Snd env impl_TurnSegment.spec := evF_snd env_ok (sndN) (by kernel_rfl) (by kernel_rfl) (by kernel_rfl)
attribute [local irreducible] impl_TurnSegment.run
theorem impl_TurnSegment.rt (a0 : Int) (a1 : Int) (a2 : Int) (a3 : Int) : impl_TurnSegment.ret (⟨(⟨a0, a1⟩ : S82), (⟨a2, a3⟩ : S82)⟩ : S85) = some (impl_TurnSegment.toH (a0, a1, a2, a3)) := rfl
theorem impl_TurnSegment.go {a0_0 : Int} {a0_1 : Int} {a0_2 : Int} {a0_3 : Int} {t} (h : impl_TurnSegment.f a0_0 a0_1 a0_2 a0_3 = some t) (K : Nat) : impl_TurnSegment.run K ((⟨(⟨a0_0, a0_1⟩ : S82), (⟨a0_2, a0_3⟩ : S82)⟩ : S85), ()) = some (impl_TurnSegment.toH t) := by
  rw [impl_TurnSegment.ef]
  (try dsimp only)
  unfold impl_TurnSegment.f at h
  repeat' (with_reducible first
   | exact nos h
   | (cases some_inj h; exact impl_TurnSegment.rt _ _ _ _)
   | (simp only [Option.bind_some] at h)
   | (refine ite_by h (fun hc h => ?_) (fun hc h => ?_) <;> (try simp only [nrm] at hc))
   | refine itT ?_ (by first | assumption | omega | (simp only [nrm]; first | done | assumption | omega) | (simp only [nln] at hc ⊢; omega))
   | refine itF ?_ (by first | assumption | omega | (simp only [nrm]; first | done | assumption | omega) | (simp only [nln] at hc ⊢; omega))
   | (simp only [decide_not, Bool.decide_and, decide_true, Bool.and_true, Bool.not_and, beqI] at h ⊢)
   | (exfalso; omega))
def impl_forward.Fs : List (Spc env) := [impl_BeforePoint.spec, impl_TurnSegment.spec]
def impl_forward.cut : Nat → Option (List (Lv SC)) := lk []
def impl_forward.ret (r0 : S85) : Option (HL eΓ [.st .s85]) := some (r0, ())
def impl_forward.run (k : Nat) (h : HL eΓ [.st .s85]) : Option (HL eΓ [.st .s85]) := evF env impl_forward.Fs Try.f169 impl_forward.cut [.st .s85] [.st .s85] k h
theorem impl_forward.ef (k : Nat) (h0 : S85) : impl_forward.run k (h0, ()) = impl_BeforePoint.ap k (⟨h0.f1.f0, h0.f1.f1⟩ : S82) (⟨h0.f0.f0, h0.f0.f1⟩ : S82) fun r1 => if r1 = true then (impl_TurnSegment.ap k (⟨(⟨h0.f0.f0, h0.f0.f1⟩ : S82), (⟨h0.f1.f0, h0.f1.f1⟩ : S82)⟩ : S85) fun r2 => impl_forward.ret (⟨(⟨r2.f0.f0, r2.f0.f1⟩ : S82), (⟨r2.f1.f0, r2.f1.f1⟩ : S82)⟩ : S85)) else (impl_forward.ret (⟨(⟨h0.f0.f0, h0.f0.f1⟩ : S82), (⟨h0.f1.f0, h0.f1.f1⟩ : S82)⟩ : S85)) := by kernel_rfl
def impl_forward.toH (t : Int × Int × Int × Int) : HL eΓ [.st .s85] := ((⟨(⟨t.1, t.2.1⟩ : S82), (⟨t.2.2.1, t.2.2.2⟩ : S82)⟩ : S85), ())
def impl_forward.spec : Spc env := ⟨169, [.st .s85], [.st .s85], impl_forward.run⟩
theorem impl_forward.snd : Snd env impl_forward.spec := evF_snd env_ok (sndC impl_BeforePoint.snd (sndC impl_TurnSegment.snd (sndN))) (by kernel_rfl) (by kernel_rfl) (by kernel_rfl)
attribute [local irreducible] impl_forward.run
theorem impl_forward.rt (a0 : Int) (a1 : Int) (a2 : Int) (a3 : Int) : impl_forward.ret (⟨(⟨a0, a1⟩ : S82), (⟨a2, a3⟩ : S82)⟩ : S85) = some (impl_forward.toH (a0, a1, a2, a3)) := rfl
theorem impl_forward.go {a0_0 : Int} {a0_1 : Int} {a0_2 : Int} {a0_3 : Int} {t} (h : impl_forward.f a0_0 a0_1 a0_2 a0_3 = some t) (K : Nat) : impl_forward.run K ((⟨(⟨a0_0, a0_1⟩ : S82), (⟨a0_2, a0_3⟩ : S82)⟩ : S85), ()) = some (impl_forward.toH t) := by
  rw [impl_forward.ef]
  (try dsimp only)
  unfold impl_forward.f at h
  repeat' (with_reducible first
   | exact nos h
   | (cases some_inj h; exact impl_forward.rt _ _ _ _)
   | (simp only [Option.bind_some] at h)
   | (refine ite_by h (fun hc h => ?_) (fun hc h => ?_) <;> (try simp only [nrm] at hc))
   | refine itT ?_ (by first | assumption | omega | (simp only [nrm]; first | done | assumption | omega) | (simp only [nln] at hc ⊢; omega))
   | refine itF ?_ (by first | assumption | omega | (simp only [nrm]; first | done | assumption | omega) | (simp only [nln] at hc ⊢; omega))
   | (refine bind_by h (fun t ht h => ?_); (first | refine (impl_BeforePoint.ap_of (impl_BeforePoint.go ht _)).trans ?_ | refine (impl_TurnSegment.ap_of (impl_TurnSegment.go ht _)).trans ?_); (try dsimp only at h ⊢))
   | (simp only [decide_not, Bool.decide_and, decide_true, Bool.and_true, Bool.not_and, beqI] at h ⊢)
   | (exfalso; omega))
theorem impl_forward.calls (a0_0 : Int) (a0_1 : Int) (a0_2 : Int) (a0_3 : Int) (r1 : Int) (r2 : Int) (r3 : Int) (r4 : Int) (w : World) (h : impl_forward.f a0_0 a0_1 a0_2 a0_3 = some (r1, r2, r3, r4)) :
  Calls Try.prog 169 #[.agg #[.int .i64 a0_0, .int .i64 a0_1, .int .i64 a0_2, .int .i64 a0_3]] w fun e w' => e = .returned (.agg #[.int .i64 r1, .int .i64 r2, .int .i64 r3, .int .i64 r4]) ∧ Below w.heap.size w w' := by
  refine (impl_forward.snd.calls _ _ _ (impl_forward.go h 0) w [.agg #[.int .i64 a0_0, .int .i64 a0_1, .int .i64 a0_2, .int .i64 a0_3]] ⟨⟨_, rfl, (H85.K _ _ _).2 ⟨rfl, rfl, rfl, rfl, trivial⟩⟩, trivial⟩).mono ?_
  rintro e w' ⟨v, rfl, hB, vs, oks, rfl, hR, _⟩
  obtain ⟨x0_, vs, o0_, oks, rfl, rfl, m0_, hR⟩ := rmsC hR
  obtain rfl := rmsN hR
  obtain ⟨y0, rfl, m0_⟩ := m0_
  have m0_ := (H85.M _ _ _ _ _).1 m0_
  match e0 : y0.toList, m0_ with
  | [d0_0, d0_1, d0_2, d0_3], ⟨n0_0, n0_1, n0_2, n0_3, _⟩ =>
  obtain rfl : y0 = #[d0_0, d0_1, d0_2, d0_3] := by rw [← Array.toArray_toList (xs := y0), e0]
  obtain rfl := List.singleton_inj.1 (show [d0_0] = [Value.int .i64 r1] from n0_0)
  obtain rfl := List.singleton_inj.1 (show [d0_1] = [Value.int .i64 r2] from n0_1)
  obtain rfl := List.singleton_inj.1 (show [d0_2] = [Value.int .i64 r3] from n0_2)
  obtain rfl := List.singleton_inj.1 (show [d0_3] = [Value.int .i64 r4] from n0_3)
  exact ⟨rfl, hB⟩
set_option maxHeartbeats 8000000 in
set_option maxRecDepth 100000 in
theorem impl_HowMeet.calls (k : Nat) (a0_0 : Int) (a0_1 : Int) (a0_2 : Int) (a0_3 : Int) (a1_0 : Int) (a1_1 : Int) (a1_2 : Int) (a1_3 : Int) (r : Int) (w : World) (h : impl_HowMeet.f k a0_0 a0_1 a0_2 a0_3 a1_0 a1_1 a1_2 a1_3 = some r) :
  Calls Try.prog 152 #[.agg #[.int .i64 a0_0, .int .i64 a0_1, .int .i64 a0_2, .int .i64 a0_3], .agg #[.int .i64 a1_0, .int .i64 a1_1, .int .i64 a1_2, .int .i64 a1_3]] w fun e w' => e = .returned (.int .i64 r) ∧ Below w.heap.size w w' := by
 have hu85 := Try.underlying85; have hu82 := Try.underlying82; have HB := Aside0.mk (Below.refl w.heap.size w); have H : ((impl_IsSegment.f a0_0 a0_1 a0_2 a0_3).bind fun t358 => (if t358 = true then ((impl_IsSegment.f a1_0 a1_1 a1_2 a1_3).bind fun t359 => (impl_HowMeet.j0 k (!t359) a0_0 a0_1 a0_2 a0_3 a1_0 a1_1 a1_2 a1_3)) else (impl_HowMeet.j0 k true a0_0 a0_1 a0_2 a0_3 a1_0 a1_1 a1_2 a1_3))) = some r := h; clear h; have HC3 := Aside0.mk H; clear H
 go_enter Try.func152, Try.ntmps152
 go_upto_region 1 with (first | ((with_reducible refine gt (some 2) rfl ?_); refine bx #[.int .i64 a0_0, .int .i64 a0_1, .int .i64 a0_2, .int .i64 a0_3] 85 ?_; intro gb356 hg w4 hbox hb; have BK356 := Aside0.mk (hbox); have GW356 := Aside0.mk (gez HB hg); have GE356 := Aside0.mk (gez HB hg); replace HB := Aside0.mk (below_step bz hb); clear hb hbox hg) | ((with_reducible refine gt (some 3) rfl ?_); refine bx #[.int .i64 a1_0, .int .i64 a1_1, .int .i64 a1_2, .int .i64 a1_3] 85 ?_; intro gb357 hg w5 hbox hb; have BK357 := Aside0.mk (hbox); have GW357 := Aside0.mk (gez HB hg); have GE357 := Aside0.mk (gez HB hg); replace HB := Aside0.mk (below_step bzs hb); have NB356_357 := Aside0.mk ((by rw [hg]; exact Nat.ne_of_lt (blk_lt (g := gb356) (o := .cells #[.int .i64 a0_0, .int .i64 a0_1, .int .i64 a0_2, .int .i64 a0_3] 85 (0, 0)) (kz BK356)) : gb356 ≠ gb357)); have NB357_356 := Aside0.mk ((by rw [hg]; exact Nat.ne_of_gt (blk_lt (g := gb356) (o := .cells #[.int .i64 a0_0, .int .i64 a0_1, .int .i64 a0_2, .int .i64 a0_3] 85 (0, 0)) (kz BK356)) : gb357 ≠ gb356)); replace BK356 := Aside0.mk (bbz BK356 hb); clear hb hbox hg))
 (try simp only [Act.put, List.setIfInBounds_toArray, List.set_cons_zero, List.set_cons_succ])
 go_cut [16] (fun v16 wc => ∃ (kq : Nat) (x16_2 : Bool), v16 = .bool x16_2 ∧ Aside0 (impl_HowMeet.j0 kq x16_2 a0_0 a0_1 a0_2 a0_3 a1_0 a1_1 a1_2 a1_3 = some r) ∧ Aside0 (kq ≤ k) ∧ Aside0 (wc.heap[gb356]? = some (.cells #[.int .i64 a0_0, .int .i64 a0_1, .int .i64 a0_2, .int .i64 a0_3] 85 (0, 0))) ∧ Aside0 (wc.heap[gb357]? = some (.cells #[.int .i64 a1_0, .int .i64 a1_1, .int .i64 a1_2, .int .i64 a1_3] 85 (0, 0))) ∧ Aside0 (Below w.heap.size w wc))
 case first =>
  have H := HC3.out; clear HC3; replace H := Option.bind_eq_some_iff.mp H; obtain ⟨t358, A60, H⟩ := H; have A6 := Aside0.mk A60; clear A60
  by_cases c7 : t358 = true
  ·subst c7; replace H := ift H; replace H := Option.bind_eq_some_iff.mp H; obtain ⟨t359, A80, H⟩ := H; have A8 := Aside0.mk A80; clear A80; have H' := Aside0.mk H; clear H; have hnb9 := NB356_357.out; have hnc9 := NB357_356.out; obtain ⟨hcz10_0, hcz10_1, hcz10_2, hcz10_3, hfz10_0, hfz10_1, hfz10_2, hfz10_3⟩ := cells4 BK356; go_wp2_with (first | ((with_reducible refine gt (some 10) rfl ?_); refine gc Try.func151 (impl_IsSegment.calls a0_0 a0_1 a0_2 a0_3 true _ A6.out) ?_; rintro e w11 ⟨rfl, hb⟩; refine ⟨_, rfl, ?_⟩; replace BK356 := Aside0.mk (bbz BK356 hb); replace BK357 := Aside0.mk (bbz BK357 hb); replace HB := Aside0.mk (below_step bzs hb); (try clear hb); obtain ⟨hcz12_0, hcz12_1, hcz12_2, hcz12_3, hfz12_0, hfz12_1, hfz12_2, hfz12_3⟩ := cells4 BK357) | (go_at_call 151; (with_reducible refine (impl_IsSegment.calls a1_0 a1_1 a1_2 a1_3 t359 _ A8.out).mono ?_); rintro e w13 ⟨rfl, hb⟩; replace BK356 := Aside0.mk (bbz BK356 hb); replace BK357 := Aside0.mk (bbz BK357 hb); replace HB := Aside0.mk (below_step bzs hb); (try clear hb)))
   go_meet
   case rel => exact ⟨_, (!t359), rz, H', ⟨qz⟩, ⟨kz BK356⟩, ⟨kz BK357⟩, ⟨bzs⟩⟩
  ·replace c7 := Bool.eq_false_iff.mpr c7; subst c7; replace H := iff_ H; have H' := Aside0.mk H; clear H; have hnb14 := NB356_357.out; have hnc14 := NB357_356.out; obtain ⟨hcz15_0, hcz15_1, hcz15_2, hcz15_3, hfz15_0, hfz15_1, hfz15_2, hfz15_3⟩ := cells4 BK356; go_wp2_with (first | ((with_reducible refine gt (some 10) rfl ?_); refine gc Try.func151 (impl_IsSegment.calls a0_0 a0_1 a0_2 a0_3 false _ A6.out) ?_; rintro e w16 ⟨rfl, hb⟩; refine ⟨_, rfl, ?_⟩; replace BK356 := Aside0.mk (bbz BK356 hb); replace BK357 := Aside0.mk (bbz BK357 hb); replace HB := Aside0.mk (below_step bzs hb); (try clear hb)))
   go_meet
   case rel => exact ⟨_, (true), rz, H', ⟨qz⟩, ⟨kz BK356⟩, ⟨kz BK357⟩, ⟨bzs⟩⟩
 case rest =>
  clear HC3; (try clear c1); (try clear p2); (try clear c7); (try clear c9); (try clear c14); (try clear c15); (try clear hcz10_0); (try clear hcz10_1); (try clear hcz10_2); (try clear hcz10_3); (try clear hcz12_0); (try clear hcz12_1); (try clear hcz12_2); (try clear hcz12_3); (try clear hcz15_0); (try clear hcz15_1); (try clear hcz15_2); (try clear hcz15_3); (try clear hfz10_0); (try clear hfz10_1); (try clear hfz10_2); (try clear hfz10_3); (try clear hfz12_0); (try clear hfz12_1); (try clear hfz12_2); (try clear hfz12_3); (try clear hfz15_0); (try clear hfz15_1); (try clear hfz15_2); (try clear hfz15_3); obtain ⟨kq, x16_2, rfl, HA, HJ2, BK356, BK357, HB⟩ := hcut
  cases kq with
  | zero => exact absurd HA.out (by simp [impl_HowMeet.j0])
  | succ kj2 =>
   have H := HA.out; clear HA; simp only [impl_HowMeet.j0] at H
   by_cases c17 : x16_2 = true
   ·subst c17; replace H := ift H; obtain rfl := Option.some.inj H; go_wp2; go_ret
    exact ⟨ez, bzs⟩
   ·replace c17 := Bool.eq_false_iff.mpr c17; subst c17; replace H := iff_ H; replace H := Option.bind_eq_some_iff.mp H; obtain ⟨t360, A180, H⟩ := H; have A18 := Aside0.mk A180; clear A180; replace H := Option.bind_eq_some_iff.mp H; obtain ⟨t361, A190, H⟩ := H; have A19 := Aside0.mk A190; clear A190; have HC20 := Aside0.mk H; clear H; (try go_wp2); replace BK356 := Aside0.mk (blk_drew BK356.out); replace BK357 := Aside0.mk (blk_drew BK357.out); replace HB := Aside0.mk (below_drew1 HB.out); refine start_ (n := 16) (S := fun w' => w'.cell? ⟨gb356, 0, none⟩ = some (.int .i64 a0_0) ∧ w'.cell? ⟨gb356, 1, none⟩ = some (.int .i64 a0_1) ∧ w'.cell? ⟨gb356, 2, none⟩ = some (.int .i64 a0_2) ∧ w'.cell? ⟨gb356, 3, none⟩ = some (.int .i64 a0_3) ∧ w'.cell? ⟨gb357, 0, none⟩ = some (.int .i64 a1_0) ∧ w'.cell? ⟨gb357, 1, none⟩ = some (.int .i64 a1_1) ∧ w'.cell? ⟨gb357, 2, none⟩ = some (.int .i64 a1_2) ∧ w'.cell? ⟨gb357, 3, none⟩ = some (.int .i64 a1_3)) (ds := []) #[F,F,F,F,F,F,F,F,F,F,F,F,F,F,F,F] (by kernel_rfl) rfl rfl ⟨bc BK356 0, bc BK356 1, bc BK356 2, bc BK356 3, bc BK357 0, bc BK357 1, bc BK357 2, bc BK357 3⟩ (fun hHeld => ?_); refine with_tabW impl_HowMeet.tab3 impl_HowMeet.bits3 (fun HT_ HW_ => ?_); generalize wc.drew = w21 at BK356 BK357 HB hHeld ⊢; refine pz HT_ 0 17 ?_; refine pz HT_ 2 19 ?_; refine pz HT_ 4 21 ?_; refine pz HT_ 7 24 ?_; refine pz HT_ 9 26 ?_; refine pz HT_ 11 28 ?_; refine tz8 HT_ HW_ hHeld 1 18 ?_; refine tz8 HT_ HW_ hHeld 3 20 ?_; refine tz8 HT_ HW_ hHeld 5 22 ?_; refine tz8 HT_ HW_ hHeld 8 25 ?_; refine tz8 HT_ HW_ hHeld 10 27 ?_; refine tz8 HT_ HW_ hHeld 12 29 ?_
    refine oz HT_ 6 (some 23) (fun K hK => ?_); refine gz Try.func167 #[.agg #[.int .i64 a0_0, .int .i64 a0_1], .agg #[.int .i64 a0_2, .int .i64 a0_3], .agg #[.int .i64 a1_0, .int .i64 a1_1]] ?_
    with_reducible refine (impl_SideOf.calls a0_0 a0_1 a0_2 a0_3 a1_0 a1_1 t360 _ A18.out).mono ?_
    rintro e w22 ⟨rfl, hb⟩; refine ⟨_, rfl, ?_⟩; replace BK356 := Aside0.mk (bbz BK356 hb); replace BK357 := Aside0.mk (bbz BK357 hb); replace HB := Aside0.mk (below_step bzs hb); (try clear hb); (try clear hb2); (try clear hk); (try clear hi); refine hK.out _ _ ⟨bc BK356 0, bc BK356 1, bc BK356 2, bc BK356 3, bc BK357 0, bc BK357 1, bc BK357 2, bc BK357 3⟩ (fun hHeld => ?_); clear hK K; refine nz 23 ?_; refine oz HT_ 13 (some 30) (fun K hK => ?_); refine gz Try.func167 #[.agg #[.int .i64 a0_0, .int .i64 a0_1], .agg #[.int .i64 a0_2, .int .i64 a0_3], .agg #[.int .i64 a1_2, .int .i64 a1_3]] ?_
    with_reducible refine (impl_SideOf.calls a0_0 a0_1 a0_2 a0_3 a1_2 a1_3 t361 _ A19.out).mono ?_
    rintro e w23 ⟨rfl, hb⟩; refine ⟨_, rfl, ?_⟩; replace BK356 := Aside0.mk (bbz BK356 hb); replace BK357 := Aside0.mk (bbz BK357 hb); replace HB := Aside0.mk (below_step bzs hb); (try clear hb); (try clear hb2); (try clear hk); (try clear hi); refine hK.out _ _ ⟨bc BK356 0, bc BK356 1, bc BK356 2, bc BK356 3, bc BK357 0, bc BK357 1, bc BK357 2, bc BK357 3⟩ (fun hHeld => ?_); clear hK K; refine nz 30 ?_; refine pz HT_ 14 5 ?_; refine pz HT_ 15 6 ?_; refine dz HT_ ?_
    go_upto_region 4 with (fail)
    go_cut [36] (fun v36 wc => ∃ (kq : Nat) (x36_19 : Bool), v36 = .bool x36_19 ∧ Aside0 (impl_HowMeet.j1 kq t360 t361 x36_19 a0_0 a0_1 a0_2 a0_3 a1_0 a1_1 a1_2 a1_3 = some r) ∧ Aside0 (kq ≤ kj2) ∧ Aside0 (wc.heap[gb356]? = some (.cells #[.int .i64 a0_0, .int .i64 a0_1, .int .i64 a0_2, .int .i64 a0_3] 85 (0, 0))) ∧ Aside0 (wc.heap[gb357]? = some (.cells #[.int .i64 a1_0, .int .i64 a1_1, .int .i64 a1_2, .int .i64 a1_3] 85 (0, 0))) ∧ Aside0 (Below w.heap.size w wc))
    case first =>
     have H := HC20.out; clear HC20
     by_cases c24 : t360 = 0
     ·rw [if_pos c24] at H; have c24b0 : (t360 == 0) = true := beq_iff_eq.mpr c24; have c24b1 : (t360 != 0) = false := bne_eq_false_iff_eq.mpr c24; clear c24
      (first | rw [c24b0] | (simp only [i64_w, i32_w]; rw [c24b0]) | skip)
      have H' := Aside0.mk H; clear H; go_wp2
      go_meet
      case rel => exact ⟨_, ((t361 == 0)), rz, H', ⟨by have := HJ2.out; first | omega | exact Nat.le_refl _⟩, ⟨kz BK356⟩, ⟨kz BK357⟩, ⟨bzs⟩⟩
     ·rw [if_neg c24] at H; have c24b0 : (t360 == 0) = false := beq_eq_false_iff_ne.mpr c24; have c24b1 : (t360 != 0) = true := bne_iff_ne.mpr c24
      (first | rw [c24b0] | (simp only [i64_w, i32_w]; rw [c24b0]) | skip)
      have H' := Aside0.mk H; clear H; go_wp2
      go_meet
      case rel => exact ⟨_, (false), rz, H', ⟨by have := HJ2.out; first | omega | exact Nat.le_refl _⟩, ⟨kz BK356⟩, ⟨kz BK357⟩, ⟨bzs⟩⟩
    case rest =>
     clear HC20; (try clear c1); (try clear c2); (try clear p2); (try clear c7); (try clear c9); (try clear c14); (try clear c15); (try clear c16); (try clear c17); (try clear c24); (try clear c24b0); (try clear c24b1); (try clear hcz10_0); (try clear hcz10_1); (try clear hcz10_2); (try clear hcz10_3); (try clear hcz12_0); (try clear hcz12_1); (try clear hcz12_2); (try clear hcz12_3); (try clear hcz15_0); (try clear hcz15_1); (try clear hcz15_2); (try clear hcz15_3); (try clear hfz10_0); (try clear hfz10_1); (try clear hfz10_2); (try clear hfz10_3); (try clear hfz12_0); (try clear hfz12_1); (try clear hfz12_2); (try clear hfz12_3); (try clear hfz15_0); (try clear hfz15_1); (try clear hfz15_2); (try clear hfz15_3); (try clear p2); obtain ⟨kq, x36_19, rfl, HA, HJ19, BK356, BK357, HB⟩ := hcut
     cases kq with
     | zero => exact absurd HA.out (by simp [impl_HowMeet.j1])
     | succ kj19 =>
      have H := HA.out; clear HA; simp only [impl_HowMeet.j1] at H
      by_cases c25 : x36_19 = true
      ·subst c25; replace H := ift H; replace H := Option.bind_eq_some_iff.mp H; obtain ⟨⟨t362, t363, t364, t365⟩, A260, H⟩ := H; replace H : ((impl_forward.f a1_0 a1_1 a1_2 a1_3).bind fun bt366 => ((impl_BeforePoint.f t362 t363 bt366.1 bt366.2.1).bind fun t372 => (if t372 = true then (impl_HowMeet.j2 kj19 bt366.1 bt366.2.1 bt366.2.2.1 bt366.2.2.2 bt366.1 bt366.2.1 t364 t365) else (impl_HowMeet.j2 kj19 bt366.1 bt366.2.1 bt366.2.2.1 bt366.2.2.2 t362 t363 t364 t365)))) = some r := H; have A26 := Aside0.mk A260; clear A260; replace H := Option.bind_eq_some_iff.mp H; obtain ⟨⟨t366, t367, t368, t369⟩, A270, H⟩ := H; replace H : ((impl_BeforePoint.f t362 t363 t366 t367).bind fun t372 => (if t372 = true then (impl_HowMeet.j2 kj19 t366 t367 t368 t369 t366 t367 t364 t365) else (impl_HowMeet.j2 kj19 t366 t367 t368 t369 t362 t363 t364 t365))) = some r := H; have A27 := Aside0.mk A270; clear A270; replace H := Option.bind_eq_some_iff.mp H; obtain ⟨t372, A280, H⟩ := H; have A28 := Aside0.mk A280; clear A280; have HC29 := Aside0.mk H; clear H; (try go_wp2); replace BK356 := Aside0.mk (blk_drew BK356.out); replace BK357 := Aside0.mk (blk_drew BK357.out); replace HB := Aside0.mk (below_drew1 HB.out); refine start_ (n := 6) (S := fun w' => w'.cell? ⟨gb356, 0, none⟩ = some (.int .i64 a0_0) ∧ w'.cell? ⟨gb356, 1, none⟩ = some (.int .i64 a0_1) ∧ w'.cell? ⟨gb356, 2, none⟩ = some (.int .i64 a0_2) ∧ w'.cell? ⟨gb356, 3, none⟩ = some (.int .i64 a0_3) ∧ w'.cell? ⟨gb357, 0, none⟩ = some (.int .i64 a1_0) ∧ w'.cell? ⟨gb357, 1, none⟩ = some (.int .i64 a1_1) ∧ w'.cell? ⟨gb357, 2, none⟩ = some (.int .i64 a1_2) ∧ w'.cell? ⟨gb357, 3, none⟩ = some (.int .i64 a1_3)) (ds := [4, 5]) #[F,F,F,F,F,F] (by kernel_rfl) rfl rfl ⟨bc BK356 0, bc BK356 1, bc BK356 2, bc BK356 3, bc BK357 0, bc BK357 1, bc BK357 2, bc BK357 3⟩ (fun hHeld => ?_)
       generalize wc.drew = w30 at BK356 BK357 HB hHeld ⊢; refine take_ (i := 0) (N := some 37) (v := ?_) (a' := ?_) #[T,F,F,F,F,F] rfl rfl (by kernel_rfl) (fun _ _ _ h => h) (Or.inl ⟨by rfl, ?_⟩) hHeld ?_ ?_; rotate_left
       ·rintro w' ⟨s0, s1, s2, s3, s4, s5, s6, s7⟩; go_simp
        with_reducible rfl
       rotate_left
       ·simp only [Act.put, List.setIfInBounds_toArray, List.set_cons_zero, List.set_cons_succ, i64_w, i32_w]
        rfl
       refine take_ (i := 2) (N := some 39) (v := ?_) (a' := ?_) #[T,F,T,F,F,F] rfl rfl (by kernel_rfl) (fun _ _ _ h => h) (Or.inl ⟨by rfl, ?_⟩) hHeld ?_ ?_; rotate_left
       ·rintro w' ⟨s0, s1, s2, s3, s4, s5, s6, s7⟩; go_simp
        with_reducible rfl
       rotate_left
       ·simp only [Act.put, List.setIfInBounds_toArray, List.set_cons_zero, List.set_cons_succ, i64_w, i32_w]
        rfl
       refine one_ (i := 1) (N := some 38) #[T,T,T,F,F,F] rfl rfl (by kernel_rfl) (by decide) (fun K hK => ?_); refine gz Try.func169 #[.agg #[.int .i64 a0_0, .int .i64 a0_1, .int .i64 a0_2, .int .i64 a0_3]] ?_
       with_reducible refine (impl_forward.calls a0_0 a0_1 a0_2 a0_3 t362 t363 t364 t365 _ A26.out).mono ?_
       rintro e w31 ⟨rfl, hb⟩; refine ⟨_, rfl, ?_⟩; replace BK356 := Aside0.mk (bbz BK356 hb); replace BK357 := Aside0.mk (bbz BK357 hb); replace HB := Aside0.mk (below_step bzs hb); (try clear hb); (try clear hb2); (try clear hk); (try clear hi); refine hK.out _ _ ⟨bc BK356 0, bc BK356 1, bc BK356 2, bc BK356 3, bc BK357 0, bc BK357 1, bc BK357 2, bc BK357 3⟩ (fun hHeld => ?_); clear hK K; refine nz 38 ?_; refine one_ (i := 3) (N := some 40) #[T,T,T,T,F,F] rfl rfl (by kernel_rfl) (by decide) (fun K hK => ?_); refine gz Try.func169 #[.agg #[.int .i64 a1_0, .int .i64 a1_1, .int .i64 a1_2, .int .i64 a1_3]] ?_
       with_reducible refine (impl_forward.calls a1_0 a1_1 a1_2 a1_3 t366 t367 t368 t369 _ A27.out).mono ?_
       rintro e w32 ⟨rfl, hb⟩; refine ⟨_, rfl, ?_⟩; replace BK356 := Aside0.mk (bbz BK356 hb); replace BK357 := Aside0.mk (bbz BK357 hb); replace HB := Aside0.mk (below_step bzs hb); (try clear hb); (try clear hb2); (try clear hk); (try clear hi); refine hK.out _ _ ⟨bc BK356 0, bc BK356 1, bc BK356 2, bc BK356 3, bc BK357 0, bc BK357 1, bc BK357 2, bc BK357 3⟩ (fun hHeld => ?_); clear hK K; refine nz 40 ?_; refine last_ (i := 4) (N := none) #[T,T,T,T,T,F] rfl rfl (by kernel_rfl) (by decide) (fun K hK => ?_); have hs33 : w32.cell? ⟨gb356, 0, none⟩ = some (.int .i64 a0_0) := bc BK356 0; have hfs33 := blk_frozen BK356.out 0; have hns33_1 := NB357_356.out; have hms33_1 := NB356_357.out; have hs34 : w32.cell? ⟨gb356, 1, none⟩ = some (.int .i64 a0_1) := bc BK356 1; have hfs34 := blk_frozen BK356.out 1; have hns34_1 := NB357_356.out; have hms34_1 := NB356_357.out; have hs35 : w32.cell? ⟨gb356, 2, none⟩ = some (.int .i64 a0_2) := bc BK356 2; have hfs35 := blk_frozen BK356.out 2; have hns35_1 := NB357_356.out; have hms35_1 := NB356_357.out; have hs36 : w32.cell? ⟨gb356, 3, none⟩ = some (.int .i64 a0_3) := bc BK356 3; have hfs36 := blk_frozen BK356.out 3; have hns36_1 := NB357_356.out; have hms36_1 := NB356_357.out; refine skip_ (w1 := ?_) (by rfl) rfl ?_ ?_; rotate_left
       ·go_simp
        rfl
       refine hK.out _ _ ?_; clear hK K; refine last_ (i := 5) (N := none) #[T,T,T,T,T,T] rfl rfl (by kernel_rfl) (by decide) (fun K hK => ?_); have hs37 : w32.cell? ⟨gb357, 0, none⟩ = some (.int .i64 a1_0) := bc BK357 0; have hfs37 := blk_frozen BK357.out 0; have hns37_0 := NB356_357.out; have hms37_0 := NB357_356.out; have hs38 : w32.cell? ⟨gb357, 1, none⟩ = some (.int .i64 a1_1) := bc BK357 1; have hfs38 := blk_frozen BK357.out 1; have hns38_0 := NB356_357.out; have hms38_0 := NB357_356.out; have hs39 : w32.cell? ⟨gb357, 2, none⟩ = some (.int .i64 a1_2) := bc BK357 2; have hfs39 := blk_frozen BK357.out 2; have hns39_0 := NB356_357.out; have hms39_0 := NB357_356.out; have hs40 : w32.cell? ⟨gb357, 3, none⟩ = some (.int .i64 a1_3) := bc BK357 3; have hfs40 := blk_frozen BK357.out 3; have hns40_0 := NB356_357.out; have hms40_0 := NB357_356.out; refine skip_ (w1 := ?_) (by rfl) rfl ?_ ?_; rotate_left
       ·go_simp
        rfl
       refine hK.out _ _ ?_; clear hK K; refine done_ (by kernel_rfl) ?_; (try go_wp2); have n0_ : Aside0 (((((((((w32.setCell ⟨gb356, 0, none⟩ (.int .i64 t362)).setCell ⟨gb356, 1, none⟩ (.int .i64 t363)).setCell ⟨gb356, 2, none⟩ (.int .i64 t364)).setCell ⟨gb356, 3, none⟩ (.int .i64 t365)).setCell ⟨gb357, 0, none⟩ (.int .i64 t366)).setCell ⟨gb357, 1, none⟩ (.int .i64 t367)).setCell ⟨gb357, 2, none⟩ (.int .i64 t368)).setCell ⟨gb357, 3, none⟩ (.int .i64 t369)).heap[gb356]? = some (.cells #[.int .i64 t362, .int .i64 t363, .int .i64 t364, .int .i64 t365] 85 (0, 0))) := ⟨by (with_reducible repeat (first | refine blk_drewN ?_ _ | refine blk_drew ?_ | refine blk_alloc ?_ _)); refine blk_far ?_ NB356_357.out _; (with_reducible repeat (first | refine blk_drewN ?_ _ | refine blk_drew ?_ | refine blk_alloc ?_ _)); refine blk_far ?_ NB356_357.out _; (with_reducible repeat (first | refine blk_drewN ?_ _ | refine blk_drew ?_ | refine blk_alloc ?_ _)); refine blk_far ?_ NB356_357.out _; (with_reducible repeat (first | refine blk_drewN ?_ _ | refine blk_drew ?_ | refine blk_alloc ?_ _)); refine blk_far ?_ NB356_357.out _; (with_reducible repeat (first | refine blk_drewN ?_ _ | refine blk_drew ?_ | refine blk_alloc ?_ _)); refine blk_put (cs := #[.int .i64 t362, .int .i64 t363, .int .i64 t364, .int .i64 a0_3]) ?_ 3 _ rfl; (with_reducible repeat (first | refine blk_drewN ?_ _ | refine blk_drew ?_ | refine blk_alloc ?_ _)); refine blk_put (cs := #[.int .i64 t362, .int .i64 t363, .int .i64 a0_2, .int .i64 a0_3]) ?_ 2 _ rfl; (with_reducible repeat (first | refine blk_drewN ?_ _ | refine blk_drew ?_ | refine blk_alloc ?_ _)); refine blk_put (cs := #[.int .i64 t362, .int .i64 a0_1, .int .i64 a0_2, .int .i64 a0_3]) ?_ 1 _ rfl; (with_reducible repeat (first | refine blk_drewN ?_ _ | refine blk_drew ?_ | refine blk_alloc ?_ _)); refine blk_put (cs := #[.int .i64 a0_0, .int .i64 a0_1, .int .i64 a0_2, .int .i64 a0_3]) ?_ 0 _ rfl; (with_reducible repeat (first | refine blk_drewN ?_ _ | refine blk_drew ?_ | refine blk_alloc ?_ _)); exact BK356.out⟩
       have n1_ : Aside0 (((((((((w32.setCell ⟨gb356, 0, none⟩ (.int .i64 t362)).setCell ⟨gb356, 1, none⟩ (.int .i64 t363)).setCell ⟨gb356, 2, none⟩ (.int .i64 t364)).setCell ⟨gb356, 3, none⟩ (.int .i64 t365)).setCell ⟨gb357, 0, none⟩ (.int .i64 t366)).setCell ⟨gb357, 1, none⟩ (.int .i64 t367)).setCell ⟨gb357, 2, none⟩ (.int .i64 t368)).setCell ⟨gb357, 3, none⟩ (.int .i64 t369)).heap[gb357]? = some (.cells #[.int .i64 t366, .int .i64 t367, .int .i64 t368, .int .i64 t369] 85 (0, 0))) := ⟨by (with_reducible repeat (first | refine blk_drewN ?_ _ | refine blk_drew ?_ | refine blk_alloc ?_ _)); refine blk_put (cs := #[.int .i64 t366, .int .i64 t367, .int .i64 t368, .int .i64 a1_3]) ?_ 3 _ rfl; (with_reducible repeat (first | refine blk_drewN ?_ _ | refine blk_drew ?_ | refine blk_alloc ?_ _)); refine blk_put (cs := #[.int .i64 t366, .int .i64 t367, .int .i64 a1_2, .int .i64 a1_3]) ?_ 2 _ rfl; (with_reducible repeat (first | refine blk_drewN ?_ _ | refine blk_drew ?_ | refine blk_alloc ?_ _)); refine blk_put (cs := #[.int .i64 t366, .int .i64 a1_1, .int .i64 a1_2, .int .i64 a1_3]) ?_ 1 _ rfl; (with_reducible repeat (first | refine blk_drewN ?_ _ | refine blk_drew ?_ | refine blk_alloc ?_ _)); refine blk_put (cs := #[.int .i64 a1_0, .int .i64 a1_1, .int .i64 a1_2, .int .i64 a1_3]) ?_ 0 _ rfl; (with_reducible repeat (first | refine blk_drewN ?_ _ | refine blk_drew ?_ | refine blk_alloc ?_ _)); refine blk_far ?_ NB357_356.out _; (with_reducible repeat (first | refine blk_drewN ?_ _ | refine blk_drew ?_ | refine blk_alloc ?_ _)); refine blk_far ?_ NB357_356.out _; (with_reducible repeat (first | refine blk_drewN ?_ _ | refine blk_drew ?_ | refine blk_alloc ?_ _)); refine blk_far ?_ NB357_356.out _; (with_reducible repeat (first | refine blk_drewN ?_ _ | refine blk_drew ?_ | refine blk_alloc ?_ _)); refine blk_far ?_ NB357_356.out _; (with_reducible repeat (first | refine blk_drewN ?_ _ | refine blk_drew ?_ | refine blk_alloc ?_ _)); exact BK357.out⟩
       have n2_ : Aside0 (Below w.heap.size w ((((((((w32.setCell ⟨gb356, 0, none⟩ (.int .i64 t362)).setCell ⟨gb356, 1, none⟩ (.int .i64 t363)).setCell ⟨gb356, 2, none⟩ (.int .i64 t364)).setCell ⟨gb356, 3, none⟩ (.int .i64 t365)).setCell ⟨gb357, 0, none⟩ (.int .i64 t366)).setCell ⟨gb357, 1, none⟩ (.int .i64 t367)).setCell ⟨gb357, 2, none⟩ (.int .i64 t368)).setCell ⟨gb357, 3, none⟩ (.int .i64 t369))) := ⟨bzs⟩
       (try clear BK356); (try clear BK357); (try clear HB); generalize ((((((((w32.setCell ⟨gb356, 0, none⟩ (.int .i64 t362)).setCell ⟨gb356, 1, none⟩ (.int .i64 t363)).setCell ⟨gb356, 2, none⟩ (.int .i64 t364)).setCell ⟨gb356, 3, none⟩ (.int .i64 t365)).setCell ⟨gb357, 0, none⟩ (.int .i64 t366)).setCell ⟨gb357, 1, none⟩ (.int .i64 t367)).setCell ⟨gb357, 2, none⟩ (.int .i64 t368)).setCell ⟨gb357, 3, none⟩ (.int .i64 t369)) = w41 at n0_ n1_ n2_ ⊢; have BK356 := n0_; have BK357 := n1_; have HB := n2_; clear n0_ n1_ n2_; replace BK356 := Aside0.mk (blk_drew BK356.out); replace BK357 := Aside0.mk (blk_drew BK357.out); replace HB := Aside0.mk (below_drew1 HB.out); refine start_ (n := 8) (S := fun w' => w'.cell? ⟨gb356, 0, none⟩ = some (.int .i64 t362) ∧ w'.cell? ⟨gb356, 1, none⟩ = some (.int .i64 t363) ∧ w'.cell? ⟨gb356, 2, none⟩ = some (.int .i64 t364) ∧ w'.cell? ⟨gb356, 3, none⟩ = some (.int .i64 t365)) (ds := []) #[F,F,F,F,F,F,F,F] (by kernel_rfl) rfl rfl ⟨bc BK356 0, bc BK356 1, bc BK356 2, bc BK356 3⟩ (fun hHeld => ?_); refine with_tabW impl_HowMeet.tab6 impl_HowMeet.bits6 (fun HT_ HW_ => ?_); generalize w41.drew = w42 at BK356 BK357 HB hHeld ⊢; refine pz HT_ 0 41 ?_; refine pz HT_ 2 43 ?_; refine tz4 HT_ HW_ hHeld 1 42 ?_; refine tz4 HT_ HW_ hHeld 3 44 ?_; refine join_ (σ := Nat × Nat) 2 #[T,T,T,T,T,T,F,F] (fun s_ => [(7, .pointer (some ⟨s_.1, 0, none⟩)), (8, .pointer (some ⟨s_.2, 0, none⟩))]) (fun s_ w' => (w'.cell? ⟨gb356, 0, none⟩ = some (.int .i64 t362) ∧ w'.cell? ⟨gb356, 1, none⟩ = some (.int .i64 t363) ∧ w'.cell? ⟨gb356, 2, none⟩ = some (.int .i64 t364) ∧ w'.cell? ⟨gb356, 3, none⟩ = some (.int .i64 t365)) ∧ (w'.heap[gb356]? = some (.cells #[.int .i64 t362, .int .i64 t363, .int .i64 t364, .int .i64 t365] 85 (0, 0))) ∧ (w'.heap[gb357]? = some (.cells #[.int .i64 t366, .int .i64 t367, .int .i64 t368, .int .i64 t369] 85 (0, 0))) ∧ (w'.heap[s_.1]? = some (.cells #[.int .i64 0, .int .i64 0] 82 (0, 0))) ∧ (w'.heap[s_.2]? = some (.cells #[.int .i64 0, .int .i64 0] 82 (0, 0))) ∧ (w.heap.size ≤ s_.1) ∧ (w.heap.size ≤ s_.1) ∧ (gb356 ≠ s_.1) ∧ (s_.1 ≠ gb356) ∧ (gb357 ≠ s_.1) ∧ (s_.1 ≠ gb357) ∧ (s_.2 ≠ s_.1) ∧ (s_.1 ≠ s_.2) ∧ (w.heap.size ≤ s_.2) ∧ (w.heap.size ≤ s_.2) ∧ (gb356 ≠ s_.2) ∧ (s_.2 ≠ gb356) ∧ (gb357 ≠ s_.2) ∧ (s_.2 ≠ gb357) ∧ (Below w.heap.size w w')) ?_ ?_
       rotate_left
       ·intro hCont; refine two_ (i := 4) (j := 5) (Ni := some 7) (Nj := some 8) #[T,T,T,T,T,F,F,F] #[T,T,T,T,F,T,F,F] rfl rfl rfl rfl (two_of HT_.out (by kernel_rfl)) (by decide) (by decide) (fun K hK => ?_) (fun K hK => ?_)
        ·skip
         refine box_step ?hg (N := 7) ?hd (cs := #[.int .i64 0, .int .i64 0]) (t := 82) ?hr ?_; (case hd => rfl); (case hg => rfl); (case hr => first | (go_simp; done) | (go_simp; rfl)); intro gb370 hg w43 hbox hb; have BK370 := Aside0.mk (hbox); have GW370 := Aside0.mk (gez HB hg); have GE370 := Aside0.mk (gez HB hg); replace HB := Aside0.mk (below_step bzs hb); have NB356_370 := Aside0.mk ((by rw [hg]; exact Nat.ne_of_lt (blk_lt (g := gb356) (o := .cells #[.int .i64 t362, .int .i64 t363, .int .i64 t364, .int .i64 t365] 85 (0, 0)) (kz BK356)) : gb356 ≠ gb370)); have NB370_356 := Aside0.mk ((by rw [hg]; exact Nat.ne_of_gt (blk_lt (g := gb356) (o := .cells #[.int .i64 t362, .int .i64 t363, .int .i64 t364, .int .i64 t365] 85 (0, 0)) (kz BK356)) : gb370 ≠ gb356)); replace BK356 := Aside0.mk (bbz BK356 hb); have NB357_370 := Aside0.mk ((by rw [hg]; exact Nat.ne_of_lt (blk_lt (g := gb357) (o := .cells #[.int .i64 t366, .int .i64 t367, .int .i64 t368, .int .i64 t369] 85 (0, 0)) (kz BK357)) : gb357 ≠ gb370)); have NB370_357 := Aside0.mk ((by rw [hg]; exact Nat.ne_of_gt (blk_lt (g := gb357) (o := .cells #[.int .i64 t366, .int .i64 t367, .int .i64 t368, .int .i64 t369] 85 (0, 0)) (kz BK357)) : gb370 ≠ gb357)); replace BK357 := Aside0.mk (bbz BK357 hb); clear hb hbox hg; refine hK.out _ _ ⟨bc BK356 0, bc BK356 1, bc BK356 2, bc BK356 3⟩ (fun hHeld => ?_); clear hK K; refine nz 7 ?_; refine oz HT_ 5 (some 8) (fun K hK => ?_); refine box_step ?hg (N := 8) ?hd (cs := #[.int .i64 0, .int .i64 0]) (t := 82) ?hr ?_; (case hd => rfl); (case hg => rfl); (case hr => first | (go_simp; done) | (go_simp; rfl))
         intro gb371 hg w44 hbox hb; have BK371 := Aside0.mk (hbox); have GW371 := Aside0.mk (gez HB hg); have GE371 := Aside0.mk (gez HB hg); replace HB := Aside0.mk (below_step bzs hb); have NB356_371 := Aside0.mk ((by rw [hg]; exact Nat.ne_of_lt (blk_lt (g := gb356) (o := .cells #[.int .i64 t362, .int .i64 t363, .int .i64 t364, .int .i64 t365] 85 (0, 0)) (kz BK356)) : gb356 ≠ gb371)); have NB371_356 := Aside0.mk ((by rw [hg]; exact Nat.ne_of_gt (blk_lt (g := gb356) (o := .cells #[.int .i64 t362, .int .i64 t363, .int .i64 t364, .int .i64 t365] 85 (0, 0)) (kz BK356)) : gb371 ≠ gb356)); replace BK356 := Aside0.mk (bbz BK356 hb); have NB357_371 := Aside0.mk ((by rw [hg]; exact Nat.ne_of_lt (blk_lt (g := gb357) (o := .cells #[.int .i64 t366, .int .i64 t367, .int .i64 t368, .int .i64 t369] 85 (0, 0)) (kz BK357)) : gb357 ≠ gb371)); have NB371_357 := Aside0.mk ((by rw [hg]; exact Nat.ne_of_gt (blk_lt (g := gb357) (o := .cells #[.int .i64 t366, .int .i64 t367, .int .i64 t368, .int .i64 t369] 85 (0, 0)) (kz BK357)) : gb371 ≠ gb357)); replace BK357 := Aside0.mk (bbz BK357 hb); have NB370_371 := Aside0.mk ((by rw [hg]; exact Nat.ne_of_lt (blk_lt (g := gb370) (o := .cells #[.int .i64 0, .int .i64 0] 82 (0, 0)) (kz BK370)) : gb370 ≠ gb371)); have NB371_370 := Aside0.mk ((by rw [hg]; exact Nat.ne_of_gt (blk_lt (g := gb370) (o := .cells #[.int .i64 0, .int .i64 0] 82 (0, 0)) (kz BK370)) : gb371 ≠ gb370)); replace BK370 := Aside0.mk (bbz BK370 hb); clear hb hbox hg; refine hK.out _ _ ⟨bc BK356 0, bc BK356 1, bc BK356 2, bc BK356 3⟩ (fun hHeld => ?_)
         clear hK K; refine nz 8 ?_
         exact norm_ (by simp only [putAll, Act.put, List.setIfInBounds_toArray, List.set_cons_zero, List.set_cons_succ]) (hCont (gb370, gb371) _ ⟨hHeld, (kz BK356), (kz BK357), (kz BK370), (kz BK371), GW370.out, GE370.out, NB356_370.out, NB370_356.out, NB357_370.out, NB370_357.out, NB371_370.out, NB370_371.out, GW371.out, GE371.out, NB356_371.out, NB371_356.out, NB357_371.out, NB371_357.out, bzs⟩)
        ·skip
         refine box_step ?hg (N := 8) ?hd (cs := #[.int .i64 0, .int .i64 0]) (t := 82) ?hr ?_; (case hd => rfl); (case hg => rfl); (case hr => first | (go_simp; done) | (go_simp; rfl)); intro gb371 hg w43 hbox hb; have BK371 := Aside0.mk (hbox); have GW371 := Aside0.mk (gez HB hg); have GE371 := Aside0.mk (gez HB hg); replace HB := Aside0.mk (below_step bzs hb); have NB356_371 := Aside0.mk ((by rw [hg]; exact Nat.ne_of_lt (blk_lt (g := gb356) (o := .cells #[.int .i64 t362, .int .i64 t363, .int .i64 t364, .int .i64 t365] 85 (0, 0)) (kz BK356)) : gb356 ≠ gb371)); have NB371_356 := Aside0.mk ((by rw [hg]; exact Nat.ne_of_gt (blk_lt (g := gb356) (o := .cells #[.int .i64 t362, .int .i64 t363, .int .i64 t364, .int .i64 t365] 85 (0, 0)) (kz BK356)) : gb371 ≠ gb356)); replace BK356 := Aside0.mk (bbz BK356 hb); have NB357_371 := Aside0.mk ((by rw [hg]; exact Nat.ne_of_lt (blk_lt (g := gb357) (o := .cells #[.int .i64 t366, .int .i64 t367, .int .i64 t368, .int .i64 t369] 85 (0, 0)) (kz BK357)) : gb357 ≠ gb371)); have NB371_357 := Aside0.mk ((by rw [hg]; exact Nat.ne_of_gt (blk_lt (g := gb357) (o := .cells #[.int .i64 t366, .int .i64 t367, .int .i64 t368, .int .i64 t369] 85 (0, 0)) (kz BK357)) : gb371 ≠ gb357)); replace BK357 := Aside0.mk (bbz BK357 hb); clear hb hbox hg; refine hK.out _ _ ⟨bc BK356 0, bc BK356 1, bc BK356 2, bc BK356 3⟩ (fun hHeld => ?_); clear hK K; refine nz 8 ?_; refine oz HT_ 4 (some 7) (fun K hK => ?_); refine box_step ?hg (N := 7) ?hd (cs := #[.int .i64 0, .int .i64 0]) (t := 82) ?hr ?_; (case hd => rfl); (case hg => rfl); (case hr => first | (go_simp; done) | (go_simp; rfl))
         intro gb370 hg w44 hbox hb; have BK370 := Aside0.mk (hbox); have GW370 := Aside0.mk (gez HB hg); have GE370 := Aside0.mk (gez HB hg); replace HB := Aside0.mk (below_step bzs hb); have NB356_370 := Aside0.mk ((by rw [hg]; exact Nat.ne_of_lt (blk_lt (g := gb356) (o := .cells #[.int .i64 t362, .int .i64 t363, .int .i64 t364, .int .i64 t365] 85 (0, 0)) (kz BK356)) : gb356 ≠ gb370)); have NB370_356 := Aside0.mk ((by rw [hg]; exact Nat.ne_of_gt (blk_lt (g := gb356) (o := .cells #[.int .i64 t362, .int .i64 t363, .int .i64 t364, .int .i64 t365] 85 (0, 0)) (kz BK356)) : gb370 ≠ gb356)); replace BK356 := Aside0.mk (bbz BK356 hb); have NB357_370 := Aside0.mk ((by rw [hg]; exact Nat.ne_of_lt (blk_lt (g := gb357) (o := .cells #[.int .i64 t366, .int .i64 t367, .int .i64 t368, .int .i64 t369] 85 (0, 0)) (kz BK357)) : gb357 ≠ gb370)); have NB370_357 := Aside0.mk ((by rw [hg]; exact Nat.ne_of_gt (blk_lt (g := gb357) (o := .cells #[.int .i64 t366, .int .i64 t367, .int .i64 t368, .int .i64 t369] 85 (0, 0)) (kz BK357)) : gb370 ≠ gb357)); replace BK357 := Aside0.mk (bbz BK357 hb); have NB371_370 := Aside0.mk ((by rw [hg]; exact Nat.ne_of_lt (blk_lt (g := gb371) (o := .cells #[.int .i64 0, .int .i64 0] 82 (0, 0)) (kz BK371)) : gb371 ≠ gb370)); have NB370_371 := Aside0.mk ((by rw [hg]; exact Nat.ne_of_gt (blk_lt (g := gb371) (o := .cells #[.int .i64 0, .int .i64 0] 82 (0, 0)) (kz BK371)) : gb370 ≠ gb371)); replace BK371 := Aside0.mk (bbz BK371 hb); clear hb hbox hg; refine hK.out _ _ ⟨bc BK356 0, bc BK356 1, bc BK356 2, bc BK356 3⟩ (fun hHeld => ?_)
         clear hK K; refine nz 7 ?_
         exact norm_ (by simp only [putAll, Act.put, List.setIfInBounds_toArray, List.set_cons_zero, List.set_cons_succ]) (hCont (gb370, gb371) _ ⟨hHeld, (kz BK356), (kz BK357), (kz BK370), (kz BK371), GW370.out, GE370.out, NB356_370.out, NB370_356.out, NB357_370.out, NB370_357.out, NB371_370.out, NB370_371.out, GW371.out, GE371.out, NB356_371.out, NB371_356.out, NB357_371.out, NB371_357.out, bzs⟩)
       rintro ⟨gb370, gb371⟩ w45 ⟨hS_, h0_, h1_, h2_, h3_, h4_, h5_, h6_, h7_, h8_, h9_, h10_, h11_, h12_, h13_, h14_, h15_, h16_, h17_, h18_⟩; have n0_ : Aside0 (w45.heap[gb356]? = some (.cells #[.int .i64 t362, .int .i64 t363, .int .i64 t364, .int .i64 t365] 85 (0, 0))) := ⟨h0_⟩
       have n1_ : Aside0 (w45.heap[gb357]? = some (.cells #[.int .i64 t366, .int .i64 t367, .int .i64 t368, .int .i64 t369] 85 (0, 0))) := ⟨h1_⟩
       have n2_ : Aside0 (w45.heap[gb370]? = some (.cells #[.int .i64 0, .int .i64 0] 82 (0, 0))) := ⟨h2_⟩
       have n3_ : Aside0 (w45.heap[gb371]? = some (.cells #[.int .i64 0, .int .i64 0] 82 (0, 0))) := ⟨h3_⟩
       have n4_ : Aside0 (w.heap.size ≤ gb370) := ⟨h4_⟩
       have n5_ : Aside0 (w.heap.size ≤ gb370) := ⟨h5_⟩
       have n6_ : Aside0 (gb356 ≠ gb370) := ⟨h6_⟩
       have n7_ : Aside0 (gb370 ≠ gb356) := ⟨h7_⟩
       have n8_ : Aside0 (gb357 ≠ gb370) := ⟨h8_⟩
       have n9_ : Aside0 (gb370 ≠ gb357) := ⟨h9_⟩
       have n10_ : Aside0 (gb371 ≠ gb370) := ⟨h10_⟩
       have n11_ : Aside0 (gb370 ≠ gb371) := ⟨h11_⟩
       have n12_ : Aside0 (w.heap.size ≤ gb371) := ⟨h12_⟩
       have n13_ : Aside0 (w.heap.size ≤ gb371) := ⟨h13_⟩
       have n14_ : Aside0 (gb356 ≠ gb371) := ⟨h14_⟩
       have n15_ : Aside0 (gb371 ≠ gb356) := ⟨h15_⟩
       have n16_ : Aside0 (gb357 ≠ gb371) := ⟨h16_⟩
       have n17_ : Aside0 (gb371 ≠ gb357) := ⟨h17_⟩
       have n18_ : Aside0 (Below w.heap.size w w45) := ⟨h18_⟩
       clear BK356; clear BK357; clear HB; clear h0_ h1_ h2_ h3_ h4_ h5_ h6_ h7_ h8_ h9_ h10_ h11_ h12_ h13_ h14_ h15_ h16_ h17_ h18_; have BK356 := n0_; have BK357 := n1_; have BK370 := n2_; have BK371 := n3_; have GW370 := n4_; have GE370 := n5_; have NB356_370 := n6_; have NB370_356 := n7_; have NB357_370 := n8_; have NB370_357 := n9_; have NB371_370 := n10_; have NB370_371 := n11_; have GW371 := n12_; have GE371 := n13_; have NB356_371 := n14_; have NB371_356 := n15_; have NB357_371 := n16_; have NB371_357 := n17_; have HB := n18_; clear n0_ n1_ n2_ n3_ n4_ n5_ n6_ n7_ n8_ n9_ n10_ n11_ n12_ n13_ n14_ n15_ n16_ n17_ n18_; have hHeld : w45.cell? ⟨gb356, 0, none⟩ = some (.int .i64 t362) ∧ w45.cell? ⟨gb356, 1, none⟩ = some (.int .i64 t363) ∧ w45.cell? ⟨gb356, 2, none⟩ = some (.int .i64 t364) ∧ w45.cell? ⟨gb356, 3, none⟩ = some (.int .i64 t365) := hS_; refine norm_ (a' := ?_) ?_ ?_; rotate_left
       ·simp only [putAll, Act.put, List.setIfInBounds_toArray, List.set_cons_zero, List.set_cons_succ]
        rfl
       refine oz HT_ 6 none (fun K hK => ?_); have hs46 : w45.cell? ⟨gb370, 0, none⟩ = some (.int .i64 0) := bc BK370 0; have hfs46 := blk_frozen BK370.out 0; have hns46_0 := NB356_370.out; have hns46_1 := NB357_370.out; have hns46_3 := NB371_370.out; have hms46_0 := NB370_356.out; have hms46_1 := NB370_357.out; have hms46_3 := NB370_371.out; have hs47 : w45.cell? ⟨gb370, 1, none⟩ = some (.int .i64 0) := bc BK370 1; have hfs47 := blk_frozen BK370.out 1; have hns47_0 := NB356_370.out; have hns47_1 := NB357_370.out; have hns47_3 := NB371_370.out; have hms47_0 := NB370_356.out; have hms47_1 := NB370_357.out; have hms47_3 := NB370_371.out; refine skip_ (w1 := ?_) (by rfl) rfl ?_ ?_; rotate_left
       ·go_simp
        rfl
       refine hK.out _ _ ⟨((cell_far (p := ⟨gb370, _, none⟩) NB356_370.out _).trans (((cell_far (p := ⟨gb370, _, none⟩) NB356_370.out _).trans (hHeld.1)))), ((cell_far (p := ⟨gb370, _, none⟩) NB356_370.out _).trans (((cell_far (p := ⟨gb370, _, none⟩) NB356_370.out _).trans (hHeld.2.1)))), ((cell_far (p := ⟨gb370, _, none⟩) NB356_370.out _).trans (((cell_far (p := ⟨gb370, _, none⟩) NB356_370.out _).trans (hHeld.2.2.1)))), ((cell_far (p := ⟨gb370, _, none⟩) NB356_370.out _).trans (((cell_far (p := ⟨gb370, _, none⟩) NB356_370.out _).trans (hHeld.2.2.2))))⟩ (fun hHeld => ?_); clear hK K; refine oz HT_ 7 none (fun K hK => ?_); have hs48 : w45.cell? ⟨gb371, 0, none⟩ = some (.int .i64 0) := bc BK371 0; have hfs48 := blk_frozen BK371.out 0; have hns48_0 := NB356_371.out; have hns48_1 := NB357_371.out; have hns48_2 := NB370_371.out; have hms48_0 := NB371_356.out; have hms48_1 := NB371_357.out; have hms48_2 := NB371_370.out; have hs49 : w45.cell? ⟨gb371, 1, none⟩ = some (.int .i64 0) := bc BK371 1; have hfs49 := blk_frozen BK371.out 1; have hns49_0 := NB356_371.out; have hns49_1 := NB357_371.out; have hns49_2 := NB370_371.out; have hms49_0 := NB371_356.out; have hms49_1 := NB371_357.out; have hms49_2 := NB371_370.out; refine skip_ (w1 := ?_) (by rfl) rfl ?_ ?_; rotate_left
       ·go_simp
        rfl
       refine hK.out _ _ ⟨((cell_far (p := ⟨gb371, _, none⟩) NB356_371.out _).trans (((cell_far (p := ⟨gb371, _, none⟩) NB356_371.out _).trans (hHeld.1)))), ((cell_far (p := ⟨gb371, _, none⟩) NB356_371.out _).trans (((cell_far (p := ⟨gb371, _, none⟩) NB356_371.out _).trans (hHeld.2.1)))), ((cell_far (p := ⟨gb371, _, none⟩) NB356_371.out _).trans (((cell_far (p := ⟨gb371, _, none⟩) NB356_371.out _).trans (hHeld.2.2.1)))), ((cell_far (p := ⟨gb371, _, none⟩) NB356_371.out _).trans (((cell_far (p := ⟨gb371, _, none⟩) NB356_371.out _).trans (hHeld.2.2.2))))⟩ (fun hHeld => ?_); clear hK K; refine dz HT_ ?_; have hnb50 := NB370_356.out; have hnc50 := NB356_370.out; have hnb51 := NB370_357.out; have hnc51 := NB357_370.out; have hnb52 := NB370_371.out; have hnc52 := NB371_370.out; obtain ⟨hcz53_0, hcz53_1, hfz53_0, hfz53_1⟩ := cells2 BK370; have hnb54 := NB357_356.out; have hnc54 := NB356_357.out; have hnb55 := NB357_371.out; have hnc55 := NB371_357.out; obtain ⟨hcz56_0, hcz56_1, hcz56_2, hcz56_3, hfz56_0, hfz56_1, hfz56_2, hfz56_3⟩ := cells4 BK357
       go_upto_if 48 with (first | ((with_reducible refine gt (some 48) rfl ?_); refine gc Try.func170 (impl_BeforePoint.calls t362 t363 t366 t367 t372 _ A28.out) ?_; rintro e w57 ⟨rfl, hb⟩; refine ⟨_, rfl, ?_⟩; replace BK356 := Aside0.mk (bbz BK356 hb); replace BK357 := Aside0.mk (bbz BK357 hb); replace BK370 := Aside0.mk (blk_below (g := gb370) (o := .cells #[.int .i64 t362, .int .i64 t363] 82 (0, 0)) (by (with_reducible repeat (first | refine blk_drewN ?_ _ | refine blk_drew ?_ | refine blk_alloc ?_ _)); refine blk_far ?_ NB370_371.out _; (with_reducible repeat (first | refine blk_drewN ?_ _ | refine blk_drew ?_ | refine blk_alloc ?_ _)); refine blk_far ?_ NB370_371.out _; (with_reducible repeat (first | refine blk_drewN ?_ _ | refine blk_drew ?_ | refine blk_alloc ?_ _)); refine blk_put (cs := #[.int .i64 t362, .int .i64 0]) ?_ 1 _ rfl; (with_reducible repeat (first | refine blk_drewN ?_ _ | refine blk_drew ?_ | refine blk_alloc ?_ _)); refine blk_put (cs := #[.int .i64 0, .int .i64 0]) ?_ 0 _ rfl; (with_reducible repeat (first | refine blk_drewN ?_ _ | refine blk_drew ?_ | refine blk_alloc ?_ _)); exact BK370.out) hb); replace BK371 := Aside0.mk (blk_below (g := gb371) (o := .cells #[.int .i64 t364, .int .i64 t365] 82 (0, 0)) (by (with_reducible repeat (first | refine blk_drewN ?_ _ | refine blk_drew ?_ | refine blk_alloc ?_ _)); refine blk_put (cs := #[.int .i64 t364, .int .i64 0]) ?_ 1 _ rfl; (with_reducible repeat (first | refine blk_drewN ?_ _ | refine blk_drew ?_ | refine blk_alloc ?_ _)); refine blk_put (cs := #[.int .i64 0, .int .i64 0]) ?_ 0 _ rfl; (with_reducible repeat (first | refine blk_drewN ?_ _ | refine blk_drew ?_ | refine blk_alloc ?_ _)); refine blk_far ?_ NB371_370.out _; (with_reducible repeat (first | refine blk_drewN ?_ _ | refine blk_drew ?_ | refine blk_alloc ?_ _)); refine blk_far ?_ NB371_370.out _; (with_reducible repeat (first | refine blk_drewN ?_ _ | refine blk_drew ?_ | refine blk_alloc ?_ _)); exact BK371.out) hb); replace HB := Aside0.mk (below_step bzs hb); (try clear hb)))
       (try simp only [Act.put, List.setIfInBounds_toArray, List.set_cons_zero, List.set_cons_succ])
       go_cut [] (fun wc => ∃ (kq : Nat) (x371000_28 : Int) (x371001_28 : Int), Aside0 (impl_HowMeet.j2 kq t366 t367 t368 t369 x371000_28 x371001_28 t364 t365 = some r) ∧ Aside0 (kq ≤ kj19) ∧ Aside0 (wc.heap[gb356]? = some (.cells #[.int .i64 t362, .int .i64 t363, .int .i64 t364, .int .i64 t365] 85 (0, 0))) ∧ Aside0 (wc.heap[gb357]? = some (.cells #[.int .i64 t366, .int .i64 t367, .int .i64 t368, .int .i64 t369] 85 (0, 0))) ∧ Aside0 (wc.heap[gb370]? = some (.cells #[.int .i64 x371000_28, .int .i64 x371001_28] 82 (0, 0))) ∧ Aside0 (wc.heap[gb371]? = some (.cells #[.int .i64 t364, .int .i64 t365] 82 (0, 0))) ∧ Aside0 (Below w.heap.size w wc))
       case first =>
        have H := HC29.out; clear HC29
        by_cases c58 : t372 = true
        ·subst c58; replace H := ift H; have H' := Aside0.mk H; clear H; have hnb59 := NB357_356.out; have hnc59 := NB356_357.out; have hnb60 := NB357_370.out; have hnc60 := NB370_357.out; have hnb61 := NB357_371.out; have hnc61 := NB371_357.out; obtain ⟨hcz62_0, hcz62_1, hcz62_2, hcz62_3, hfz62_0, hfz62_1, hfz62_2, hfz62_3⟩ := cells4 BK357; have hnb63 := NB370_356.out; have hnc63 := NB356_370.out; have hnb64 := NB370_371.out; have hnc64 := NB371_370.out; obtain ⟨hcz65_0, hcz65_1, hfz65_0, hfz65_1⟩ := cells2 BK370; go_wp2
         go_meet
         case rel => exact ⟨_, (t366), (t367), H', ⟨by have := HJ2.out; have := HJ19.out; first | omega | exact Nat.le_refl _⟩, ⟨kz BK356⟩, ⟨kz BK357⟩, ⟨by (with_reducible repeat (first | refine blk_drewN ?_ _ | refine blk_drew ?_ | refine blk_alloc ?_ _)); refine blk_put (cs := #[.int .i64 t366, .int .i64 t363]) ?_ 1 _ rfl; (with_reducible repeat (first | refine blk_drewN ?_ _ | refine blk_drew ?_ | refine blk_alloc ?_ _)); refine blk_put (cs := #[.int .i64 t362, .int .i64 t363]) ?_ 0 _ rfl; (with_reducible repeat (first | refine blk_drewN ?_ _ | refine blk_drew ?_ | refine blk_alloc ?_ _)); exact BK370.out⟩, ⟨kz BK371⟩, ⟨bzs⟩⟩
        ·replace c58 := Bool.eq_false_iff.mpr c58; subst c58; replace H := iff_ H; have H' := Aside0.mk H; clear H; go_wp2
         go_meet
         case rel => exact ⟨_, (t362), (t363), H', ⟨by have := HJ2.out; have := HJ19.out; first | omega | exact Nat.le_refl _⟩, ⟨kz BK356⟩, ⟨kz BK357⟩, ⟨kz BK370⟩, ⟨kz BK371⟩, ⟨bzs⟩⟩
       case rest =>
        clear HC29; (try clear c1); (try clear c2); (try clear p2); (try clear c5); (try clear c6); (try clear c7); (try clear c9); (try clear c14); (try clear c15); (try clear c16); (try clear c17); (try clear c24); (try clear c24b0); (try clear c24b1); (try clear c25); (try clear c50); (try clear c51); (try clear c52); (try clear c54); (try clear c55); (try clear c58); (try clear c59); (try clear c60); (try clear c61); (try clear c63); (try clear c64); (try clear hcz10_0); (try clear hcz10_1); (try clear hcz10_2); (try clear hcz10_3); (try clear hcz12_0); (try clear hcz12_1); (try clear hcz12_2); (try clear hcz12_3); (try clear hcz15_0); (try clear hcz15_1); (try clear hcz15_2); (try clear hcz15_3); (try clear hcz53_0); (try clear hcz53_1); (try clear hcz56_0); (try clear hcz56_1); (try clear hcz56_2); (try clear hcz56_3); (try clear hcz62_0); (try clear hcz62_1); (try clear hcz62_2); (try clear hcz62_3); (try clear hcz65_0); (try clear hcz65_1); (try clear hfz10_0); (try clear hfz10_1); (try clear hfz10_2); (try clear hfz10_3); (try clear hfz12_0); (try clear hfz12_1); (try clear hfz12_2); (try clear hfz12_3); (try clear hfz15_0); (try clear hfz15_1); (try clear hfz15_2); (try clear hfz15_3); (try clear hfz53_0); (try clear hfz53_1); (try clear hfz56_0); (try clear hfz56_1); (try clear hfz56_2); (try clear hfz56_3); (try clear hfz62_0); (try clear hfz62_1); (try clear hfz62_2); (try clear hfz62_3); (try clear hfz65_0); (try clear hfz65_1); (try clear p2); obtain ⟨kq, x371000_28, x371001_28, HA, HJ28, BK356, BK357, BK370, BK371, HB⟩ := hcut
        cases kq with
        | zero => exact absurd HA.out (by simp [impl_HowMeet.j2])
        | succ kj28 =>
         have H := HA.out; clear HA; simp only [impl_HowMeet.j2] at H; replace H := Option.bind_eq_some_iff.mp H; obtain ⟨t373, A660, H⟩ := H; have A66 := Aside0.mk A660; clear A660; have HC67 := Aside0.mk H; clear H; have hnb68 := NB357_356.out; have hnc68 := NB356_357.out; have hnb69 := NB357_370.out; have hnc69 := NB370_357.out; have hnb70 := NB357_371.out; have hnc70 := NB371_357.out; obtain ⟨hcz71_0, hcz71_1, hcz71_2, hcz71_3, hfz71_0, hfz71_1, hfz71_2, hfz71_3⟩ := cells4 BK357; have hnb72 := NB371_356.out; have hnc72 := NB356_371.out; have hnb73 := NB371_370.out; have hnc73 := NB370_371.out; obtain ⟨hcz74_0, hcz74_1, hfz74_0, hfz74_1⟩ := cells2 BK371
         go_upto_if 54 with (first | ((with_reducible refine gt (some 54) rfl ?_); refine gc Try.func170 (impl_BeforePoint.calls t368 t369 t364 t365 t373 _ A66.out) ?_; rintro e w75 ⟨rfl, hb⟩; refine ⟨_, rfl, ?_⟩; replace BK356 := Aside0.mk (bbz BK356 hb); replace BK357 := Aside0.mk (bbz BK357 hb); replace BK370 := Aside0.mk (bbz BK370 hb); replace BK371 := Aside0.mk (bbz BK371 hb); replace HB := Aside0.mk (below_step bzs hb); (try clear hb)))
         (try simp only [Act.put, List.setIfInBounds_toArray, List.set_cons_zero, List.set_cons_succ])
         go_cut [] (fun wc => ∃ (kq : Nat) (x372000_66 : Int) (x372001_66 : Int), Aside0 (impl_HowMeet.j3 kq x371000_28 x371001_28 x372000_66 x372001_66 = some r) ∧ Aside0 (kq ≤ kj28) ∧ Aside0 (wc.heap[gb356]? = some (.cells #[.int .i64 t362, .int .i64 t363, .int .i64 t364, .int .i64 t365] 85 (0, 0))) ∧ Aside0 (wc.heap[gb357]? = some (.cells #[.int .i64 t366, .int .i64 t367, .int .i64 t368, .int .i64 t369] 85 (0, 0))) ∧ Aside0 (wc.heap[gb370]? = some (.cells #[.int .i64 x371000_28, .int .i64 x371001_28] 82 (0, 0))) ∧ Aside0 (wc.heap[gb371]? = some (.cells #[.int .i64 x372000_66, .int .i64 x372001_66] 82 (0, 0))) ∧ Aside0 (Below w.heap.size w wc))
         case first =>
          have H := HC67.out; clear HC67
          by_cases c76 : t373 = true
          ·subst c76; replace H := ift H; have H' := Aside0.mk H; clear H; have hnb77 := NB357_356.out; have hnc77 := NB356_357.out; have hnb78 := NB357_370.out; have hnc78 := NB370_357.out; have hnb79 := NB357_371.out; have hnc79 := NB371_357.out; obtain ⟨hcz80_0, hcz80_1, hcz80_2, hcz80_3, hfz80_0, hfz80_1, hfz80_2, hfz80_3⟩ := cells4 BK357; have hnb81 := NB371_356.out; have hnc81 := NB356_371.out; have hnb82 := NB371_370.out; have hnc82 := NB370_371.out; obtain ⟨hcz83_0, hcz83_1, hfz83_0, hfz83_1⟩ := cells2 BK371; go_wp2
           go_meet
           case rel => exact ⟨_, (t368), (t369), H', ⟨by have := HJ2.out; have := HJ19.out; have := HJ28.out; first | omega | exact Nat.le_refl _⟩, ⟨kz BK356⟩, ⟨kz BK357⟩, ⟨kz BK370⟩, ⟨by (with_reducible repeat (first | refine blk_drewN ?_ _ | refine blk_drew ?_ | refine blk_alloc ?_ _)); refine blk_put (cs := #[.int .i64 t368, .int .i64 t365]) ?_ 1 _ rfl; (with_reducible repeat (first | refine blk_drewN ?_ _ | refine blk_drew ?_ | refine blk_alloc ?_ _)); refine blk_put (cs := #[.int .i64 t364, .int .i64 t365]) ?_ 0 _ rfl; (with_reducible repeat (first | refine blk_drewN ?_ _ | refine blk_drew ?_ | refine blk_alloc ?_ _)); exact BK371.out⟩, ⟨bzs⟩⟩
          ·replace c76 := Bool.eq_false_iff.mpr c76; subst c76; replace H := iff_ H; have H' := Aside0.mk H; clear H; go_wp2
           go_meet
           case rel => exact ⟨_, (t364), (t365), H', ⟨by have := HJ2.out; have := HJ19.out; have := HJ28.out; first | omega | exact Nat.le_refl _⟩, ⟨kz BK356⟩, ⟨kz BK357⟩, ⟨kz BK370⟩, ⟨kz BK371⟩, ⟨bzs⟩⟩
         case rest =>
          clear HC67; (try clear c1); (try clear c2); (try clear p2); (try clear c5); (try clear c6); (try clear c7); (try clear c8); (try clear c9); (try clear c14); (try clear c15); (try clear c16); (try clear c17); (try clear c24); (try clear c24b0); (try clear c24b1); (try clear c25); (try clear c50); (try clear c51); (try clear c52); (try clear c54); (try clear c55); (try clear c58); (try clear c59); (try clear c60); (try clear c61); (try clear c63); (try clear c64); (try clear c68); (try clear c69); (try clear c70); (try clear c72); (try clear c73); (try clear c76); (try clear c77); (try clear c78); (try clear c79); (try clear c81); (try clear c82); (try clear hcz10_0); (try clear hcz10_1); (try clear hcz10_2); (try clear hcz10_3); (try clear hcz12_0); (try clear hcz12_1); (try clear hcz12_2); (try clear hcz12_3); (try clear hcz15_0); (try clear hcz15_1); (try clear hcz15_2); (try clear hcz15_3); (try clear hcz53_0); (try clear hcz53_1); (try clear hcz56_0); (try clear hcz56_1); (try clear hcz56_2); (try clear hcz56_3); (try clear hcz62_0); (try clear hcz62_1); (try clear hcz62_2); (try clear hcz62_3); (try clear hcz65_0); (try clear hcz65_1); (try clear hcz71_0); (try clear hcz71_1); (try clear hcz71_2); (try clear hcz71_3); (try clear hcz74_0); (try clear hcz74_1); (try clear hcz80_0); (try clear hcz80_1); (try clear hcz80_2); (try clear hcz80_3); (try clear hcz83_0); (try clear hcz83_1); (try clear hfz10_0); (try clear hfz10_1); (try clear hfz10_2); (try clear hfz10_3)
          (try clear hfz12_0); (try clear hfz12_1); (try clear hfz12_2); (try clear hfz12_3); (try clear hfz15_0); (try clear hfz15_1); (try clear hfz15_2); (try clear hfz15_3); (try clear hfz53_0); (try clear hfz53_1); (try clear hfz56_0); (try clear hfz56_1); (try clear hfz56_2); (try clear hfz56_3); (try clear hfz62_0); (try clear hfz62_1); (try clear hfz62_2); (try clear hfz62_3); (try clear hfz65_0); (try clear hfz65_1); (try clear hfz71_0); (try clear hfz71_1); (try clear hfz71_2); (try clear hfz71_3); (try clear hfz74_0); (try clear hfz74_1); (try clear hfz80_0); (try clear hfz80_1); (try clear hfz80_2); (try clear hfz80_3); (try clear hfz83_0); (try clear hfz83_1); (try clear p2); obtain ⟨kq, x372000_66, x372001_66, HA, HJ66, BK356, BK357, BK370, BK371, HB⟩ := hcut
          cases kq with
          | zero => exact absurd HA.out (by simp [impl_HowMeet.j3])
          | succ kj66 =>
           have H := HA.out; clear HA; simp only [impl_HowMeet.j3] at H; replace H := Option.bind_eq_some_iff.mp H; obtain ⟨t374, A840, H⟩ := H; have A84 := Aside0.mk A840; clear A840
           by_cases c85 : t374 = true
           ·subst c85; replace H := ift H; obtain rfl := Option.some.inj H; have hnb86 := NB371_356.out; have hnc86 := NB356_371.out; have hnb87 := NB371_357.out; have hnc87 := NB357_371.out; have hnb88 := NB371_370.out; have hnc88 := NB370_371.out; obtain ⟨hcz89_0, hcz89_1, hfz89_0, hfz89_1⟩ := cells2 BK371; have hnb90 := NB370_356.out; have hnc90 := NB356_370.out; have hnb91 := NB370_357.out; have hnc91 := NB357_370.out; obtain ⟨hcz92_0, hcz92_1, hfz92_0, hfz92_1⟩ := cells2 BK370; go_wp2_with (first | ((with_reducible refine gt (some 60) rfl ?_); refine gc Try.func170 (impl_BeforePoint.calls x372000_66 x372001_66 x371000_28 x371001_28 true _ A84.out) ?_; rintro e w93 ⟨rfl, hb⟩; refine ⟨_, rfl, ?_⟩; replace BK356 := Aside0.mk (bbz BK356 hb); replace BK357 := Aside0.mk (bbz BK357 hb); replace BK370 := Aside0.mk (bbz BK370 hb); replace BK371 := Aside0.mk (bbz BK371 hb); replace HB := Aside0.mk (below_step bzs hb); (try clear hb))); go_ret
            exact ⟨ez, bzs⟩
           ·replace c85 := Bool.eq_false_iff.mpr c85; subst c85; replace H := iff_ H
            by_cases c94 : (x371000_28 == x372000_66 && (x371001_28 == x372001_66)) = true
            ·rw [if_pos c94] at H; have c94b0 : (x371000_28 == x372000_66 && (x371001_28 == x372001_66)) = true := c94; (try (have c94b1 : decide (x371000_28 = x372000_66 && (x371001_28 == x372001_66)) = true := by simpa using c94)); (try (have c94b2 : (x371000_28 == x372000_66 && (x371001_28 == x372001_66)) = true := by simpa using c94)); clear c94; obtain rfl := Option.some.inj H; have hnb95 := NB371_356.out; have hnc95 := NB356_371.out; have hnb96 := NB371_357.out; have hnc96 := NB357_371.out; have hnb97 := NB371_370.out; have hnc97 := NB370_371.out; obtain ⟨hcz98_0, hcz98_1, hfz98_0, hfz98_1⟩ := cells2 BK371; have hnb99 := NB370_356.out; have hnc99 := NB356_370.out; have hnb100 := NB370_357.out; have hnc100 := NB357_370.out; obtain ⟨hcz101_0, hcz101_1, hfz101_0, hfz101_1⟩ := cells2 BK370; go_wp2_with (first | ((with_reducible refine gt (some 60) rfl ?_); refine gc Try.func170 (impl_BeforePoint.calls x372000_66 x372001_66 x371000_28 x371001_28 false _ A84.out) ?_; rintro e w102 ⟨rfl, hb⟩; refine ⟨_, rfl, ?_⟩; replace BK356 := Aside0.mk (bbz BK356 hb); replace BK357 := Aside0.mk (bbz BK357 hb); replace BK370 := Aside0.mk (bbz BK370 hb); replace BK371 := Aside0.mk (bbz BK371 hb); replace HB := Aside0.mk (below_step bzs hb); (try clear hb); obtain ⟨hcz103_0, hcz103_1, hfz103_0, hfz103_1⟩ := cells2 BK370; obtain ⟨hcz104_0, hcz104_1, hfz104_0, hfz104_1⟩ := cells2 BK371)); go_ret
             exact ⟨ez, bzs⟩
            ·rw [if_neg c94] at H; have c94b0 : (x371000_28 == x372000_66 && (x371001_28 == x372001_66)) = false := by simpa using c94
             (try (have c94b1 : decide (x371000_28 = x372000_66 && (x371001_28 == x372001_66)) = false := by simpa using c94)); (try (have c94b2 : (x371000_28 == x372000_66 && (x371001_28 == x372001_66)) = false := by simpa using c94)); (try (have c94b3 : ¬ (x371000_28 = x372000_66 && (x371001_28 == x372001_66)) := by simpa using c94)); clear c94; obtain rfl := Option.some.inj H; have hnb105 := NB371_356.out; have hnc105 := NB356_371.out; have hnb106 := NB371_357.out; have hnc106 := NB357_371.out; have hnb107 := NB371_370.out; have hnc107 := NB370_371.out; obtain ⟨hcz108_0, hcz108_1, hfz108_0, hfz108_1⟩ := cells2 BK371; have hnb109 := NB370_356.out; have hnc109 := NB356_370.out; have hnb110 := NB370_357.out; have hnc110 := NB357_370.out; obtain ⟨hcz111_0, hcz111_1, hfz111_0, hfz111_1⟩ := cells2 BK370; go_wp2_with (first | ((with_reducible refine gt (some 60) rfl ?_); refine gc Try.func170 (impl_BeforePoint.calls x372000_66 x372001_66 x371000_28 x371001_28 false _ A84.out) ?_; rintro e w112 ⟨rfl, hb⟩; refine ⟨_, rfl, ?_⟩; replace BK356 := Aside0.mk (bbz BK356 hb); replace BK357 := Aside0.mk (bbz BK357 hb); replace BK370 := Aside0.mk (bbz BK370 hb); replace BK371 := Aside0.mk (bbz BK371 hb); replace HB := Aside0.mk (below_step bzs hb); (try clear hb); obtain ⟨hcz113_0, hcz113_1, hfz113_0, hfz113_1⟩ := cells2 BK370; obtain ⟨hcz114_0, hcz114_1, hfz114_0, hfz114_1⟩ := cells2 BK371)); go_ret
             exact ⟨ez, bzs⟩
      ·replace c25 := Bool.eq_false_iff.mpr c25; subst c25; replace H := iff_ H; have HC115 := Aside0.mk H; clear H
       go_upto_region 16 with (fail)
       go_cut [86] (fun v86 wc => ∃ (kq : Nat) (x86_114 : Bool), v86 = .bool x86_114 ∧ Aside0 (impl_HowMeet.j4 kq x86_114 a0_0 a0_1 a0_2 a0_3 a1_0 a1_1 a1_2 a1_3 = some r) ∧ Aside0 (kq ≤ kj19) ∧ Aside0 (wc.heap[gb356]? = some (.cells #[.int .i64 a0_0, .int .i64 a0_1, .int .i64 a0_2, .int .i64 a0_3] 85 (0, 0))) ∧ Aside0 (wc.heap[gb357]? = some (.cells #[.int .i64 a1_0, .int .i64 a1_1, .int .i64 a1_2, .int .i64 a1_3] 85 (0, 0))) ∧ Aside0 (Below w.heap.size w wc))
       case first =>
        have H := HC115.out; clear HC115
        by_cases c116 : (wrap64 (t360 * t361)) < 0
        ·rw [if_pos c116] at H; have c116b0 := decide_eq_true c116; clear c116
         (first | rw [c116b0] | (simp only [i64_w, i32_w]; rw [c116b0]) | skip)
         replace H := Option.bind_eq_some_iff.mp H; obtain ⟨t375, A1170, H⟩ := H; have A117 := Aside0.mk A1170; clear A1170; replace H := Option.bind_eq_some_iff.mp H; obtain ⟨t376, A1180, H⟩ := H; have A118 := Aside0.mk A1180; clear A1180; have H' := Aside0.mk H; clear H; (try go_wp2); replace BK356 := Aside0.mk (blk_drew BK356.out); replace BK357 := Aside0.mk (blk_drew BK357.out); replace HB := Aside0.mk (below_drew1 HB.out); refine start_ (n := 22) (S := fun w' => w'.cell? ⟨gb357, 0, none⟩ = some (.int .i64 a1_0) ∧ w'.cell? ⟨gb357, 1, none⟩ = some (.int .i64 a1_1) ∧ w'.cell? ⟨gb357, 2, none⟩ = some (.int .i64 a1_2) ∧ w'.cell? ⟨gb357, 3, none⟩ = some (.int .i64 a1_3) ∧ w'.cell? ⟨gb356, 0, none⟩ = some (.int .i64 a0_0) ∧ w'.cell? ⟨gb356, 1, none⟩ = some (.int .i64 a0_1) ∧ w'.cell? ⟨gb356, 2, none⟩ = some (.int .i64 a0_2) ∧ w'.cell? ⟨gb356, 3, none⟩ = some (.int .i64 a0_3)) (ds := []) #[F,F,F,F,F,F,F,F,F,F,F,F,F,F,F,F,F,F,F,F,F,F] (by kernel_rfl) rfl rfl ⟨bc BK357 0, bc BK357 1, bc BK357 2, bc BK357 3, bc BK356 0, bc BK356 1, bc BK356 2, bc BK356 3⟩ (fun hHeld => ?_); refine with_tabW impl_HowMeet.tab16 impl_HowMeet.bits16 (fun HT_ HW_ => ?_); generalize wc.drew = w119 at BK356 BK357 HB hHeld ⊢; refine pz HT_ 0 65 ?_; refine pz HT_ 1 66 ?_; refine pz HT_ 2 67 ?_; refine pz HT_ 3 68 ?_; refine pz HT_ 4 69 ?_; refine pz HT_ 5 70 ?_; refine pz HT_ 7 72 ?_; refine pz HT_ 9 74 ?_; refine pz HT_ 12 77 ?_; refine pz HT_ 14 79 ?_; refine pz HT_ 16 81 ?_; refine tz8 HT_ HW_ hHeld 6 71 ?_; refine tz8 HT_ HW_ hHeld 8 73 ?_; refine tz8 HT_ HW_ hHeld 10 75 ?_; refine tz8 HT_ HW_ hHeld 13 78 ?_; refine tz8 HT_ HW_ hHeld 15 80 ?_; refine tz8 HT_ HW_ hHeld 17 82 ?_
         refine oz HT_ 11 (some 76) (fun K hK => ?_); refine gz Try.func167 #[.agg #[.int .i64 a1_0, .int .i64 a1_1], .agg #[.int .i64 a1_2, .int .i64 a1_3], .agg #[.int .i64 a0_0, .int .i64 a0_1]] ?_
         with_reducible refine (impl_SideOf.calls a1_0 a1_1 a1_2 a1_3 a0_0 a0_1 t375 _ A117.out).mono ?_
         rintro e w120 ⟨rfl, hb⟩; refine ⟨_, rfl, ?_⟩; replace BK356 := Aside0.mk (bbz BK356 hb); replace BK357 := Aside0.mk (bbz BK357 hb); replace HB := Aside0.mk (below_step bzs hb); (try clear hb); (try clear hb2); (try clear hk); (try clear hi); refine hK.out _ _ ⟨bc BK357 0, bc BK357 1, bc BK357 2, bc BK357 3, bc BK356 0, bc BK356 1, bc BK356 2, bc BK356 3⟩ (fun hHeld => ?_); clear hK K; refine nz 76 ?_; refine oz HT_ 18 (some 83) (fun K hK => ?_); refine gz Try.func167 #[.agg #[.int .i64 a1_0, .int .i64 a1_1], .agg #[.int .i64 a1_2, .int .i64 a1_3], .agg #[.int .i64 a0_2, .int .i64 a0_3]] ?_
         with_reducible refine (impl_SideOf.calls a1_0 a1_1 a1_2 a1_3 a0_2 a0_3 t376 _ A118.out).mono ?_
         rintro e w121 ⟨rfl, hb⟩; refine ⟨_, rfl, ?_⟩; replace BK356 := Aside0.mk (bbz BK356 hb); replace BK357 := Aside0.mk (bbz BK357 hb); replace HB := Aside0.mk (below_step bzs hb); (try clear hb); (try clear hb2); (try clear hk); (try clear hi); refine hK.out _ _ ⟨bc BK357 0, bc BK357 1, bc BK357 2, bc BK357 3, bc BK356 0, bc BK356 1, bc BK356 2, bc BK356 3⟩ (fun hHeld => ?_); clear hK K; refine nz 83 ?_; refine pz HT_ 19 84 ?_; refine pz HT_ 20 85 ?_; refine pz HT_ 21 86 ?_; refine dz HT_ ?_; (try go_wp2)
         go_meet
         case rel => exact ⟨_, (decide ((wrap64 (t375 * t376)) < 0)), rz, H', ⟨by have := HJ2.out; have := HJ19.out; first | omega | exact Nat.le_refl _⟩, ⟨kz BK356⟩, ⟨kz BK357⟩, ⟨bzs⟩⟩
        ·rw [if_neg c116] at H; have c116b0 := decide_eq_false c116; clear c116
         (first | rw [c116b0] | (simp only [i64_w, i32_w]; rw [c116b0]) | skip)
         have H' := Aside0.mk H; clear H; (try go_wp2); replace BK356 := Aside0.mk (blk_drew BK356.out); replace BK357 := Aside0.mk (blk_drew BK357.out); replace HB := Aside0.mk (below_drew1 HB.out); refine start_ (n := 22) (S := fun w' => True) (ds := []) #[F,F,F,F,F,F,F,F,F,F,F,F,F,F,F,F,F,F,F,F,F,F] (by kernel_rfl) rfl rfl trivial (fun hHeld => ?_); refine with_tabW impl_HowMeet.tab16 impl_HowMeet.bits16 (fun HT_ HW_ => ?_); generalize wc.drew = w122 at BK356 BK357 HB hHeld ⊢; refine pz HT_ 0 65 ?_; refine pz HT_ 1 66 ?_; refine pz HT_ 2 67 ?_; refine pz HT_ 3 68 ?_; refine pz HT_ 4 69 ?_; refine uz HT_ 5 70 ?_; refine uz HT_ 6 71 ?_; refine uz HT_ 7 72 ?_; refine uz HT_ 8 73 ?_; refine uz HT_ 9 74 ?_; refine uz HT_ 10 75 ?_; refine uz HT_ 11 76 ?_; refine uz HT_ 12 77 ?_; refine uz HT_ 13 78 ?_; refine uz HT_ 14 79 ?_; refine uz HT_ 15 80 ?_; refine uz HT_ 16 81 ?_; refine uz HT_ 17 82 ?_; refine uz HT_ 18 83 ?_; refine uz HT_ 19 84 ?_; refine uz HT_ 20 85 ?_; refine pz HT_ 21 86 ?_; refine dz HT_ ?_; (try go_wp2)
         go_meet
         case rel => exact ⟨_, (false), rz, H', ⟨by have := HJ2.out; have := HJ19.out; first | omega | exact Nat.le_refl _⟩, ⟨kz BK356⟩, ⟨kz BK357⟩, ⟨bzs⟩⟩
       case rest =>
        clear HC115; (try clear c1); (try clear c2); (try clear p2); (try clear c5); (try clear c6); (try clear p6); (try clear c7); (try clear c8); (try clear c9); (try clear c10); (try clear c11); (try clear c15); (try clear c16); (try clear c17); (try clear c24); (try clear c24b0); (try clear c24b1); (try clear c25); (try clear c50); (try clear c51); (try clear c52); (try clear c54); (try clear c55); (try clear c58); (try clear c59); (try clear c60); (try clear c61); (try clear c63); (try clear c64); (try clear p64); (try clear c68); (try clear c69); (try clear c70); (try clear c72); (try clear c73); (try clear c76); (try clear c77); (try clear c78); (try clear c79); (try clear c81); (try clear c82); (try clear c85); (try clear c86); (try clear c87); (try clear c88); (try clear c90); (try clear c91); (try clear c94); (try clear c94b0); (try clear c94b1); (try clear c94b2); (try clear c95); (try clear c96); (try clear c97); (try clear c99); (try clear c100); (try clear c105); (try clear c106); (try clear c107); (try clear c109); (try clear c110); (try clear c116); (try clear c116b0); (try clear hcz101_0); (try clear hcz101_1); (try clear hcz103_0); (try clear hcz103_1); (try clear hcz104_0); (try clear hcz104_1); (try clear hcz108_0); (try clear hcz108_1); (try clear hcz10_0); (try clear hcz10_1); (try clear hcz10_2); (try clear hcz10_3); (try clear hcz111_0); (try clear hcz111_1); (try clear hcz113_0); (try clear hcz113_1); (try clear hcz114_0); (try clear hcz114_1); (try clear hcz12_0)
        (try clear hcz12_1); (try clear hcz12_2); (try clear hcz12_3); (try clear hcz15_0); (try clear hcz15_1); (try clear hcz15_2); (try clear hcz15_3); (try clear hcz53_0); (try clear hcz53_1); (try clear hcz56_0); (try clear hcz56_1); (try clear hcz56_2); (try clear hcz56_3); (try clear hcz62_0); (try clear hcz62_1); (try clear hcz62_2); (try clear hcz62_3); (try clear hcz65_0); (try clear hcz65_1); (try clear hcz71_0); (try clear hcz71_1); (try clear hcz71_2); (try clear hcz71_3); (try clear hcz74_0); (try clear hcz74_1); (try clear hcz80_0); (try clear hcz80_1); (try clear hcz80_2); (try clear hcz80_3); (try clear hcz83_0); (try clear hcz83_1); (try clear hcz89_0); (try clear hcz89_1); (try clear hcz92_0); (try clear hcz92_1); (try clear hcz98_0); (try clear hcz98_1); (try clear hfz101_0); (try clear hfz101_1); (try clear hfz103_0); (try clear hfz103_1); (try clear hfz104_0); (try clear hfz104_1); (try clear hfz108_0); (try clear hfz108_1); (try clear hfz10_0); (try clear hfz10_1); (try clear hfz10_2); (try clear hfz10_3); (try clear hfz111_0); (try clear hfz111_1); (try clear hfz113_0); (try clear hfz113_1); (try clear hfz114_0); (try clear hfz114_1); (try clear hfz12_0); (try clear hfz12_1); (try clear hfz12_2); (try clear hfz12_3); (try clear hfz15_0); (try clear hfz15_1); (try clear hfz15_2); (try clear hfz15_3); (try clear hfz53_0); (try clear hfz53_1); (try clear hfz56_0); (try clear hfz56_1); (try clear hfz56_2); (try clear hfz56_3); (try clear hfz62_0); (try clear hfz62_1)
        (try clear hfz62_2); (try clear hfz62_3); (try clear hfz65_0); (try clear hfz65_1); (try clear hfz71_0); (try clear hfz71_1); (try clear hfz71_2); (try clear hfz71_3); (try clear hfz74_0); (try clear hfz74_1); (try clear hfz80_0); (try clear hfz80_1); (try clear hfz80_2); (try clear hfz80_3); (try clear hfz83_0); (try clear hfz83_1); (try clear hfz89_0); (try clear hfz89_1); (try clear hfz92_0); (try clear hfz92_1); (try clear hfz98_0); (try clear hfz98_1); (try clear p2); obtain ⟨kq, x86_114, rfl, HA, HJ114, BK356, BK357, HB⟩ := hcut
        cases kq with
        | zero => exact absurd HA.out (by simp [impl_HowMeet.j4])
        | succ kj114 =>
         have H := HA.out; clear HA; simp only [impl_HowMeet.j4] at H
         by_cases c123 : x86_114 = true
         ·subst c123; replace H := ift H; obtain rfl := Option.some.inj H; go_wp2; go_ret
          exact ⟨ez, bzs⟩
         ·replace c123 := Bool.eq_false_iff.mpr c123; subst c123; replace H := iff_ H; replace H := Option.bind_eq_some_iff.mp H; obtain ⟨t377, A1240, H⟩ := H; have A124 := Aside0.mk A1240; clear A1240
          by_cases c125 : t377 = true
          ·subst c125; replace H := ift H; obtain rfl := Option.some.inj H; have hnb126 := NB356_357.out; have hnc126 := NB357_356.out; obtain ⟨hcz127_0, hcz127_1, hcz127_2, hcz127_3, hfz127_0, hfz127_1, hfz127_2, hfz127_3⟩ := cells4 BK356; obtain ⟨hcz128_0, hcz128_1, hcz128_2, hcz128_3, hfz128_0, hfz128_1, hfz128_2, hfz128_3⟩ := cells4 BK357; go_wp2_with (first | ((with_reducible refine gt (some 90) rfl ?_); refine gc Try.func171 (impl_IsOn.calls a0_0 a0_1 a0_2 a0_3 a1_0 a1_1 true _ A124.out) ?_; rintro e w129 ⟨rfl, hb⟩; refine ⟨_, rfl, ?_⟩; replace BK356 := Aside0.mk (bbz BK356 hb); replace BK357 := Aside0.mk (bbz BK357 hb); replace HB := Aside0.mk (below_step bzs hb); (try clear hb))); go_ret
           exact ⟨ez, bzs⟩
          ·replace c125 := Bool.eq_false_iff.mpr c125; subst c125; replace H := iff_ H; replace H := Option.bind_eq_some_iff.mp H; obtain ⟨t378, A1300, H⟩ := H; have A130 := Aside0.mk A1300; clear A1300
           by_cases c131 : t378 = true
           ·subst c131; replace H := ift H; obtain rfl := Option.some.inj H; have hnb132 := NB356_357.out; have hnc132 := NB357_356.out; obtain ⟨hcz133_0, hcz133_1, hcz133_2, hcz133_3, hfz133_0, hfz133_1, hfz133_2, hfz133_3⟩ := cells4 BK356; obtain ⟨hcz134_0, hcz134_1, hcz134_2, hcz134_3, hfz134_0, hfz134_1, hfz134_2, hfz134_3⟩ := cells4 BK357; go_wp2_with (first | ((with_reducible refine gt (some 90) rfl ?_); refine gc Try.func171 (impl_IsOn.calls a0_0 a0_1 a0_2 a0_3 a1_0 a1_1 false _ A124.out) ?_; rintro e w135 ⟨rfl, hb⟩; refine ⟨_, rfl, ?_⟩; replace BK356 := Aside0.mk (bbz BK356 hb); replace BK357 := Aside0.mk (bbz BK357 hb); replace HB := Aside0.mk (below_step bzs hb); (try clear hb); obtain ⟨hcz136_0, hcz136_1, hcz136_2, hcz136_3, hfz136_0, hfz136_1, hfz136_2, hfz136_3⟩ := cells4 BK356; obtain ⟨hcz137_0, hcz137_1, hcz137_2, hcz137_3, hfz137_0, hfz137_1, hfz137_2, hfz137_3⟩ := cells4 BK357) | (go_at_call 171; (with_reducible refine (impl_IsOn.calls a0_0 a0_1 a0_2 a0_3 a1_2 a1_3 true _ A130.out).mono ?_); rintro e w138 ⟨rfl, hb⟩; replace BK356 := Aside0.mk (bbz BK356 hb); replace BK357 := Aside0.mk (bbz BK357 hb); replace HB := Aside0.mk (below_step bzs hb); (try clear hb))); go_ret
            exact ⟨ez, bzs⟩
           ·replace c131 := Bool.eq_false_iff.mpr c131; subst c131; replace H := iff_ H; replace H := Option.bind_eq_some_iff.mp H; obtain ⟨t379, A1390, H⟩ := H; have A139 := Aside0.mk A1390; clear A1390
            by_cases c140 : t379 = true
            ·subst c140; replace H := ift H; obtain rfl := Option.some.inj H; have hnb141 := NB356_357.out; have hnc141 := NB357_356.out; obtain ⟨hcz142_0, hcz142_1, hcz142_2, hcz142_3, hfz142_0, hfz142_1, hfz142_2, hfz142_3⟩ := cells4 BK356; obtain ⟨hcz143_0, hcz143_1, hcz143_2, hcz143_3, hfz143_0, hfz143_1, hfz143_2, hfz143_3⟩ := cells4 BK357; go_wp2_with (first | ((with_reducible refine gt (some 90) rfl ?_); refine gc Try.func171 (impl_IsOn.calls a0_0 a0_1 a0_2 a0_3 a1_0 a1_1 false _ A124.out) ?_; rintro e w144 ⟨rfl, hb⟩; refine ⟨_, rfl, ?_⟩; replace BK356 := Aside0.mk (bbz BK356 hb); replace BK357 := Aside0.mk (bbz BK357 hb); replace HB := Aside0.mk (below_step bzs hb); (try clear hb); obtain ⟨hcz145_0, hcz145_1, hcz145_2, hcz145_3, hfz145_0, hfz145_1, hfz145_2, hfz145_3⟩ := cells4 BK356; obtain ⟨hcz146_0, hcz146_1, hcz146_2, hcz146_3, hfz146_0, hfz146_1, hfz146_2, hfz146_3⟩ := cells4 BK357) | (go_at_call 171; (with_reducible refine (impl_IsOn.calls a0_0 a0_1 a0_2 a0_3 a1_2 a1_3 false _ A130.out).mono ?_); rintro e w147 ⟨rfl, hb⟩; replace BK356 := Aside0.mk (bbz BK356 hb); replace BK357 := Aside0.mk (bbz BK357 hb); replace HB := Aside0.mk (below_step bzs hb); (try clear hb); obtain ⟨hcz148_0, hcz148_1, hcz148_2, hcz148_3, hfz148_0, hfz148_1, hfz148_2, hfz148_3⟩ := cells4 BK357; obtain ⟨hcz149_0, hcz149_1, hcz149_2, hcz149_3, hfz149_0, hfz149_1, hfz149_2, hfz149_3⟩ := cells4 BK356) | (go_at_call 171; (with_reducible refine (impl_IsOn.calls a1_0 a1_1 a1_2 a1_3 a0_0 a0_1 true _ A139.out).mono ?_); rintro e w150 ⟨rfl, hb⟩; replace BK356 := Aside0.mk (bbz BK356 hb); replace BK357 := Aside0.mk (bbz BK357 hb); replace HB := Aside0.mk (below_step bzs hb); (try clear hb)))
             go_ret
             exact ⟨ez, bzs⟩
            ·replace c140 := Bool.eq_false_iff.mpr c140; subst c140; replace H := iff_ H; replace H := Option.bind_eq_some_iff.mp H; obtain ⟨t380, A1510, H⟩ := H; have A151 := Aside0.mk A1510; clear A1510
             by_cases c152 : t380 = true
             ·subst c152; replace H := ift H; obtain rfl := Option.some.inj H; have hnb153 := NB356_357.out; have hnc153 := NB357_356.out; obtain ⟨hcz154_0, hcz154_1, hcz154_2, hcz154_3, hfz154_0, hfz154_1, hfz154_2, hfz154_3⟩ := cells4 BK356; obtain ⟨hcz155_0, hcz155_1, hcz155_2, hcz155_3, hfz155_0, hfz155_1, hfz155_2, hfz155_3⟩ := cells4 BK357; go_wp2_with (first | ((with_reducible refine gt (some 90) rfl ?_); refine gc Try.func171 (impl_IsOn.calls a0_0 a0_1 a0_2 a0_3 a1_0 a1_1 false _ A124.out) ?_; rintro e w156 ⟨rfl, hb⟩; refine ⟨_, rfl, ?_⟩; replace BK356 := Aside0.mk (bbz BK356 hb); replace BK357 := Aside0.mk (bbz BK357 hb); replace HB := Aside0.mk (below_step bzs hb); (try clear hb); obtain ⟨hcz157_0, hcz157_1, hcz157_2, hcz157_3, hfz157_0, hfz157_1, hfz157_2, hfz157_3⟩ := cells4 BK356; obtain ⟨hcz158_0, hcz158_1, hcz158_2, hcz158_3, hfz158_0, hfz158_1, hfz158_2, hfz158_3⟩ := cells4 BK357) | (go_at_call 171; (with_reducible refine (impl_IsOn.calls a0_0 a0_1 a0_2 a0_3 a1_2 a1_3 false _ A130.out).mono ?_); rintro e w159 ⟨rfl, hb⟩; replace BK356 := Aside0.mk (bbz BK356 hb); replace BK357 := Aside0.mk (bbz BK357 hb); replace HB := Aside0.mk (below_step bzs hb); (try clear hb); obtain ⟨hcz160_0, hcz160_1, hcz160_2, hcz160_3, hfz160_0, hfz160_1, hfz160_2, hfz160_3⟩ := cells4 BK357; obtain ⟨hcz161_0, hcz161_1, hcz161_2, hcz161_3, hfz161_0, hfz161_1, hfz161_2, hfz161_3⟩ := cells4 BK356) | (go_at_call 171; (with_reducible refine (impl_IsOn.calls a1_0 a1_1 a1_2 a1_3 a0_0 a0_1 false _ A139.out).mono ?_); rintro e w162 ⟨rfl, hb⟩; replace BK356 := Aside0.mk (bbz BK356 hb); replace BK357 := Aside0.mk (bbz BK357 hb); replace HB := Aside0.mk (below_step bzs hb); (try clear hb); obtain ⟨hcz163_0, hcz163_1, hcz163_2, hcz163_3, hfz163_0, hfz163_1, hfz163_2, hfz163_3⟩ := cells4 BK357; obtain ⟨hcz164_0, hcz164_1, hcz164_2, hcz164_3, hfz164_0, hfz164_1, hfz164_2, hfz164_3⟩ := cells4 BK356) | (go_at_call 171; (with_reducible refine (impl_IsOn.calls a1_0 a1_1 a1_2 a1_3 a0_2 a0_3 true _ A151.out).mono ?_); rintro e w165 ⟨rfl, hb⟩; replace BK356 := Aside0.mk (bbz BK356 hb); replace BK357 := Aside0.mk (bbz BK357 hb); replace HB := Aside0.mk (below_step bzs hb); (try clear hb)))
              go_ret
              exact ⟨ez, bzs⟩
             ·replace c152 := Bool.eq_false_iff.mpr c152; subst c152; replace H := iff_ H; obtain rfl := Option.some.inj H; have hnb166 := NB356_357.out; have hnc166 := NB357_356.out; obtain ⟨hcz167_0, hcz167_1, hcz167_2, hcz167_3, hfz167_0, hfz167_1, hfz167_2, hfz167_3⟩ := cells4 BK356; obtain ⟨hcz168_0, hcz168_1, hcz168_2, hcz168_3, hfz168_0, hfz168_1, hfz168_2, hfz168_3⟩ := cells4 BK357; go_wp2_with (first | ((with_reducible refine gt (some 90) rfl ?_); refine gc Try.func171 (impl_IsOn.calls a0_0 a0_1 a0_2 a0_3 a1_0 a1_1 false _ A124.out) ?_; rintro e w169 ⟨rfl, hb⟩; refine ⟨_, rfl, ?_⟩; replace BK356 := Aside0.mk (bbz BK356 hb); replace BK357 := Aside0.mk (bbz BK357 hb); replace HB := Aside0.mk (below_step bzs hb); (try clear hb); obtain ⟨hcz170_0, hcz170_1, hcz170_2, hcz170_3, hfz170_0, hfz170_1, hfz170_2, hfz170_3⟩ := cells4 BK356; obtain ⟨hcz171_0, hcz171_1, hcz171_2, hcz171_3, hfz171_0, hfz171_1, hfz171_2, hfz171_3⟩ := cells4 BK357) | (go_at_call 171; (with_reducible refine (impl_IsOn.calls a0_0 a0_1 a0_2 a0_3 a1_2 a1_3 false _ A130.out).mono ?_); rintro e w172 ⟨rfl, hb⟩; replace BK356 := Aside0.mk (bbz BK356 hb); replace BK357 := Aside0.mk (bbz BK357 hb); replace HB := Aside0.mk (below_step bzs hb); (try clear hb); obtain ⟨hcz173_0, hcz173_1, hcz173_2, hcz173_3, hfz173_0, hfz173_1, hfz173_2, hfz173_3⟩ := cells4 BK357; obtain ⟨hcz174_0, hcz174_1, hcz174_2, hcz174_3, hfz174_0, hfz174_1, hfz174_2, hfz174_3⟩ := cells4 BK356) | (go_at_call 171; (with_reducible refine (impl_IsOn.calls a1_0 a1_1 a1_2 a1_3 a0_0 a0_1 false _ A139.out).mono ?_); rintro e w175 ⟨rfl, hb⟩; replace BK356 := Aside0.mk (bbz BK356 hb); replace BK357 := Aside0.mk (bbz BK357 hb); replace HB := Aside0.mk (below_step bzs hb); (try clear hb); obtain ⟨hcz176_0, hcz176_1, hcz176_2, hcz176_3, hfz176_0, hfz176_1, hfz176_2, hfz176_3⟩ := cells4 BK357; obtain ⟨hcz177_0, hcz177_1, hcz177_2, hcz177_3, hfz177_0, hfz177_1, hfz177_2, hfz177_3⟩ := cells4 BK356) | (go_at_call 171; (with_reducible refine (impl_IsOn.calls a1_0 a1_1 a1_2 a1_3 a0_2 a0_3 false _ A151.out).mono ?_); rintro e w178 ⟨rfl, hb⟩; replace BK356 := Aside0.mk (bbz BK356 hb); replace BK357 := Aside0.mk (bbz BK357 hb); replace HB := Aside0.mk (below_step bzs hb); (try clear hb)))
              go_ret
              exact ⟨ez, bzs⟩
def impl_HowMeet.toH (t : Int) : HL eΓ [.i .i64] := (t, ())
def impl_HowMeet.run (k : Nat) (h : HL eΓ [.st .s85, .st .s85]) : Option (HL eΓ [.i .i64]) := (impl_HowMeet.f k ((h.1 : S85).f0.f0) ((h.1 : S85).f0.f1) ((h.1 : S85).f1.f0) ((h.1 : S85).f1.f1) ((h.2.1 : S85).f0.f0) ((h.2.1 : S85).f0.f1) ((h.2.1 : S85).f1.f0) ((h.2.1 : S85).f1.f1)).map impl_HowMeet.toH
def impl_HowMeet.spec : Spc env := ⟨152, [.st .s85, .st .s85], [.i .i64], impl_HowMeet.run⟩
def impl_HowMeet.ap {R : Type} (k : Nat) (h0 : S85) (h1 : S85) (K : Int → Option R) : Option R := (impl_HowMeet.run k (h0, h1, ())).bind fun r => K (r.1 : Int)
theorem impl_HowMeet.ap_of {R : Type} {k : Nat} {h0 : S85} {h1 : S85} {r0 : Int} {K : Int → Option R} (h : impl_HowMeet.run k (h0, h1, ()) = some (r0, ())) : impl_HowMeet.ap k h0 h1 K = K r0 := by unfold impl_HowMeet.ap; rw [h]; rfl
theorem impl_HowMeet.go {k : Nat} {a0_0 : Int} {a0_1 : Int} {a0_2 : Int} {a0_3 : Int} {a1_0 : Int} {a1_1 : Int} {a1_2 : Int} {a1_3 : Int} {t} (h : impl_HowMeet.f k a0_0 a0_1 a0_2 a0_3 a1_0 a1_1 a1_2 a1_3 = some t) (K : Nat) (hk : k ≤ K) : impl_HowMeet.run K ((⟨(⟨a0_0, a0_1⟩ : S82), (⟨a0_2, a0_3⟩ : S82)⟩ : S85), (⟨(⟨a1_0, a1_1⟩ : S82), (⟨a1_2, a1_3⟩ : S82)⟩ : S85), ()) = some (impl_HowMeet.toH t) := by
  show Option.map _ (impl_HowMeet.f K a0_0 a0_1 a0_2 a0_3 a1_0 a1_1 a1_2 a1_3) = _
  rw [leo_le (f := fun k => impl_HowMeet.f k a0_0 a0_1 a0_2 a0_3 a1_0 a1_1 a1_2 a1_3) (fun k => impl_HowMeet.mono a0_0 a0_1 a0_2 a0_3 a1_0 a1_1 a1_2 a1_3 k) hk h]; rfl
theorem impl_HowMeet.snd : Snd env impl_HowMeet.spec := ⟨⟨Try.f152, by kernel_rfl, by kernel_rfl, by kernel_rfl⟩, fun k h r he w us hA => by
  obtain ⟨t, ht, rfl⟩ := Option.map_eq_some_iff.1 (show (impl_HowMeet.f k ((h.1 : S85).f0.f0) ((h.1 : S85).f0.f1) ((h.1 : S85).f1.f0) ((h.1 : S85).f1.f1) ((h.2.1 : S85).f0.f0) ((h.2.1 : S85).f0.f1) ((h.2.1 : S85).f1.f0) ((h.2.1 : S85).f1.f1)).map impl_HowMeet.toH = some r from he)
  match us, hA with
  | [u0, u1], ⟨q0, q1, _⟩ =>
  obtain ⟨v0, rfl, q0⟩ := q0
  have q0 := (H85.K _ _ _).1 q0
  match e0 : v0.toList, q0 with
  | [c0_0, c0_1, c0_2, c0_3], ⟨p0_0, p0_1, p0_2, p0_3, _⟩ =>
  obtain rfl : v0 = #[c0_0, c0_1, c0_2, c0_3] := by rw [← Array.toArray_toList (xs := v0), e0]
  obtain rfl := List.singleton_inj.1 (show [c0_0] = [Value.int .i64 ((h.1 : S85).f0.f0)] from p0_0)
  obtain rfl := List.singleton_inj.1 (show [c0_1] = [Value.int .i64 ((h.1 : S85).f0.f1)] from p0_1)
  obtain rfl := List.singleton_inj.1 (show [c0_2] = [Value.int .i64 ((h.1 : S85).f1.f0)] from p0_2)
  obtain rfl := List.singleton_inj.1 (show [c0_3] = [Value.int .i64 ((h.1 : S85).f1.f1)] from p0_3)
  obtain ⟨v1, rfl, q1⟩ := q1
  have q1 := (H85.K _ _ _).1 q1
  match e1 : v1.toList, q1 with
  | [c1_0, c1_1, c1_2, c1_3], ⟨p1_0, p1_1, p1_2, p1_3, _⟩ =>
  obtain rfl : v1 = #[c1_0, c1_1, c1_2, c1_3] := by rw [← Array.toArray_toList (xs := v1), e1]
  obtain rfl := List.singleton_inj.1 (show [c1_0] = [Value.int .i64 ((h.2.1 : S85).f0.f0)] from p1_0)
  obtain rfl := List.singleton_inj.1 (show [c1_1] = [Value.int .i64 ((h.2.1 : S85).f0.f1)] from p1_1)
  obtain rfl := List.singleton_inj.1 (show [c1_2] = [Value.int .i64 ((h.2.1 : S85).f1.f0)] from p1_2)
  obtain rfl := List.singleton_inj.1 (show [c1_3] = [Value.int .i64 ((h.2.1 : S85).f1.f1)] from p1_3)
  refine (impl_HowMeet.calls (w := w) (h := ht) ).mono ?_
  rintro e w' ⟨he, hw⟩
  exact ⟨_, he, hw, [.int .i64 t], [fun _ => False], rfl, ⟨rfl, trivial⟩, by simp [DJ]⟩⟩
def impl_IsRing.Fs : List (Spc env) := [impl_around.spec, impl_IsSegment.spec, impl_HowMeet.spec]
def impl_IsRing.fin : St eΓ → Option (HL eΓ [.b]) := finR env Try.f114.results.toList [.b]
def impl_IsRing.cut : Nat → Option (List (Lv SC)) := lk [(5, [⟨3, none, false⟩, ⟨18, none, false⟩, ⟨19, none, false⟩]), (10, [⟨3, none, false⟩, ⟨4, none, false⟩, ⟨18, none, false⟩, ⟨19, none, false⟩, ⟨28, none, false⟩, ⟨29, none, false⟩])]
def impl_IsRing.ret (r0 : Bool) : Option (HL eΓ [.b]) := some (r0, ())
def impl_IsRing.p5 (k : Nat) (x18 : Int) (x19 : Int) (x3 : List S85) : Option (HL eΓ [.b]) := evM env impl_IsRing.Fs Try.f114.ntmps impl_IsRing.fin impl_IsRing.cut k [.code (sub_ [1, 1, 1, 0, 1, 0, 0, 0] (bodyOf Try.f114)), .code (sub_ [1, 1, 1, 0, 1, 0, 0, 1] (bodyOf Try.f114)), .lp (sub_ [1, 1, 1, 0, 1, 0, 0] (bodyOf Try.f114)), .blk 0, .code (sub_ [1, 1, 1, 1] (bodyOf Try.f114))] (mkSt [(3, .c (.sl 0)), (18, .c (.v (.int .i64 x18))), (19, .c (.v (.int .i64 x19)))] [.row .own 85 (.st .s85) x3])
def impl_IsRing.p10 (k : Nat) (x4 : Int) (x18 : Int) (x19 : Int) (x28 : Int) (x29 : Int) (x3 : List S85) : Option (HL eΓ [.b]) := evM env impl_IsRing.Fs Try.f114.ntmps impl_IsRing.fin impl_IsRing.cut k [.code (sub_ [1, 1, 1, 0, 1, 0, 0, 1, 1, 0, 0, 1, 1, 1, 0, 0, 0] (bodyOf Try.f114)), .code (sub_ [1, 1, 1, 0, 1, 0, 0, 1, 1, 0, 0, 1, 1, 1, 0, 0, 1] (bodyOf Try.f114)), .lp (sub_ [1, 1, 1, 0, 1, 0, 0, 1, 1, 0, 0, 1, 1, 1, 0, 0] (bodyOf Try.f114)), .blk 2, .blk 1, .code (sub_ [1, 1, 1, 0, 1, 0, 0, 1, 1, 1] (bodyOf Try.f114)), .lp (sub_ [1, 1, 1, 0, 1, 0, 0] (bodyOf Try.f114)), .blk 0, .code (sub_ [1, 1, 1, 1] (bodyOf Try.f114))] (mkSt [(3, .c (.sl 0)), (4, .c (.v (.int .i64 x4))), (18, .c (.v (.int .i64 x18))), (19, .c (.v (.int .i64 x19))), (28, .c (.v (.int .i64 x28))), (29, .c (.v (.int .i64 x29)))] [.row .own 85 (.st .s85) x3])
theorem impl_IsRing.e5 (k : Nat) (x18 : Int) (x19 : Int) (x3 : List S85) : impl_IsRing.p5 (k + 1) x18 x19 x3 = if x19 < x18 then (if 0 ≤ x19 then (if x19 < (x3.length : Int) then (impl_IsSegment.ap k (⟨(⟨(rd_T85 x3 x19).f0.f0, (rd_T85 x3 x19).f0.f1⟩ : S82), (⟨(rd_T85 x3 x19).f1.f0, (rd_T85 x3 x19).f1.f1⟩ : S82)⟩ : S85) fun r1 => if (!r1) = true then (impl_IsRing.ret false) else (impl_IsRing.p10 k x19 x18 x19 x19 0 x3)) else none) else none) else (impl_IsRing.ret true) := by kernel_rfl
theorem impl_IsRing.e10 (k : Nat) (x4 : Int) (x18 : Int) (x19 : Int) (x28 : Int) (x29 : Int) (x3 : List S85) : impl_IsRing.p10 (k + 1) x4 x18 x19 x28 x29 x3 = if x29 < x28 then (if x29 = (wrap64 (x4 - 1)) then (if 0 ≤ x4 then (if x4 < (x3.length : Int) then (if 0 ≤ x29 then (if x29 < (x3.length : Int) then (impl_HowMeet.ap k (⟨(⟨(rd_T85 x3 x4).f0.f0, (rd_T85 x3 x4).f0.f1⟩ : S82), (⟨(rd_T85 x3 x4).f1.f0, (rd_T85 x3 x4).f1.f1⟩ : S82)⟩ : S85) (⟨(⟨(rd_T85 x3 x29).f0.f0, (rd_T85 x3 x29).f0.f1⟩ : S82), (⟨(rd_T85 x3 x29).f1.f0, (rd_T85 x3 x29).f1.f1⟩ : S82)⟩ : S85) fun r1 => if ¬ r1 = 1 then (impl_IsRing.ret false) else (impl_IsRing.p10 k x4 x18 x19 x28 (wrap64 (x29 + 1)) x3)) else none) else none) else none) else none) else (if x29 = 0 then (if x4 = (wrap64 ((x3.length : Int) - 1)) then (if 0 ≤ x4 then (if x4 < (x3.length : Int) then (if 0 ≤ x29 then (if x29 < (x3.length : Int) then (impl_HowMeet.ap k (⟨(⟨(rd_T85 x3 x4).f0.f0, (rd_T85 x3 x4).f0.f1⟩ : S82), (⟨(rd_T85 x3 x4).f1.f0, (rd_T85 x3 x4).f1.f1⟩ : S82)⟩ : S85) (⟨(⟨(rd_T85 x3 x29).f0.f0, (rd_T85 x3 x29).f0.f1⟩ : S82), (⟨(rd_T85 x3 x29).f1.f0, (rd_T85 x3 x29).f1.f1⟩ : S82)⟩ : S85) fun r2 => if ¬ r2 = 1 then (impl_IsRing.ret false) else (impl_IsRing.p10 k x4 x18 x19 x28 (wrap64 (x29 + 1)) x3)) else none) else none) else none) else none) else (if 0 ≤ x4 then (if x4 < (x3.length : Int) then (if 0 ≤ x29 then (if x29 < (x3.length : Int) then (impl_HowMeet.ap k (⟨(⟨(rd_T85 x3 x4).f0.f0, (rd_T85 x3 x4).f0.f1⟩ : S82), (⟨(rd_T85 x3 x4).f1.f0, (rd_T85 x3 x4).f1.f1⟩ : S82)⟩ : S85) (⟨(⟨(rd_T85 x3 x29).f0.f0, (rd_T85 x3 x29).f0.f1⟩ : S82), (⟨(rd_T85 x3 x29).f1.f0, (rd_T85 x3 x29).f1.f1⟩ : S82)⟩ : S85) fun r3 => if ¬ r3 = 0 then (impl_IsRing.ret false) else (impl_IsRing.p10 k x4 x18 x19 x28 (wrap64 (x29 + 1)) x3)) else none) else none) else none) else none)) else (if 0 ≤ x4 then (if x4 < (x3.length : Int) then (if 0 ≤ x29 then (if x29 < (x3.length : Int) then (impl_HowMeet.ap k (⟨(⟨(rd_T85 x3 x4).f0.f0, (rd_T85 x3 x4).f0.f1⟩ : S82), (⟨(rd_T85 x3 x4).f1.f0, (rd_T85 x3 x4).f1.f1⟩ : S82)⟩ : S85) (⟨(⟨(rd_T85 x3 x29).f0.f0, (rd_T85 x3 x29).f0.f1⟩ : S82), (⟨(rd_T85 x3 x29).f1.f0, (rd_T85 x3 x29).f1.f1⟩ : S82)⟩ : S85) fun r4 => if ¬ r4 = 0 then (impl_IsRing.ret false) else (impl_IsRing.p10 k x4 x18 x19 x28 (wrap64 (x29 + 1)) x3)) else none) else none) else none) else none))) else (impl_IsRing.p5 k x18 (wrap64 (x19 + 1)) x3) := by kernel_rfl
def impl_IsRing.run (k : Nat) (h : HL eΓ [.l 82 (.st .s82)]) : Option (HL eΓ [.b]) := evF env impl_IsRing.Fs Try.f114 impl_IsRing.cut [.l 82 (.st .s82)] [.b] k h
theorem impl_IsRing.ef (k : Nat) (h0 : List S82) : impl_IsRing.run k (h0, ()) = if (h0.length : Int) < 3 then (impl_IsRing.ret false) else (if (h0.length : Int) > 10 then (impl_IsRing.ret false) else (impl_around.ap k h0 fun r1 => impl_IsRing.p5 k (r1.length : Int) 0 r1)) := by kernel_rfl
def impl_IsRing.toH (t : Bool) : HL eΓ [.b] := (t, ())
end
end Go.Proofs.Ytdfehjfmihokpaa.PFnExactPiecesIn
