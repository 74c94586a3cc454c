-- Written by a program of this session's (evlaw.py).
import Derived.Test.YtdfehjfmihokpaaPFnExactIsChartx3
namespace Go.Proofs.Ytdfehjfmihokpaa.PFnExactIsChart
open Go.RowKit Go.Proofs.YtdfehjfmihokpaaW.PrintWords Go.Proofs.YtdfehjfmihokpaaW.PrintLast Go.Proofs.YtdfehjfmihokpaaW.PrintMore Go.Proofs.YtdfehjfmihokpaaGeo Go.Proofs.YtdfehjfmihokpaaHand Go.Proofs.YtdfehjfmihokpaaMeet Go.Proofs.YtdfehjfmihokpaaQuiet Go.Proofs.YtdfehjfmihokpaaZ
open Go Go.Proofs.YtdfehjfmihokpaaEv
attribute [local go_sem] max2_int min2_int max_two min_two max_three min_three max_four min_four   -- for this text's walks alone
set_option linter.unusedVariables false
set_option linter.unusedSimpArgs false



set_option linter.unusedSimpArgs false

attribute [local go_sem high] eqA82
set_option linter.unusedVariables false
set_option linter.unusedSimpArgs false
set_option maxRecDepth 100000
noncomputable section
theorem impl_SegmentsOf.ef (k : Nat) (h0 : List S82) : impl_SegmentsOf.run k (h0, ()) = impl_IsLine.ap k h0 fun r1 => if (!r1) = true then (impl_SegmentsOf.ret ([] : List S85)) else (impl_SegmentsOf.p5 k 1 h0 ([] : List S85)) := by kernel_rfl
def impl_SegmentsOf.toH (t : (List (S85))) : HL eΓ [.l 85 (.st .s85)] := (t, ())
def impl_SegmentsOf.spec : Spc env := ⟨126, [.l 82 (.st .s82)], [.l 85 (.st .s85)], impl_SegmentsOf.run⟩
def impl_SegmentsOf.ap {R : Type} (k : Nat) (h0 : List S82) (K : (List S85) → Option R) : Option R := (impl_SegmentsOf.run k (h0, ())).bind fun r => K (r.1 : List S85)
theorem impl_SegmentsOf.ap_of {R : Type} {k : Nat} {h0 : List S82} {r0 : List S85} {K : (List S85) → Option R} (h : impl_SegmentsOf.run k (h0, ()) = some (r0, ())) : impl_SegmentsOf.ap k h0 K = K r0 := by unfold impl_SegmentsOf.ap; rw [h]; rfl
theorem impl_SegmentsOf.snd : Snd env impl_SegmentsOf.spec := evF_snd env_ok (sndC impl_IsLine.snd (sndN)) (by kernel_rfl) (by kernel_rfl) (by kernel_rfl)
attribute [local irreducible] impl_SegmentsOf.run
theorem impl_SegmentsOf.rt (a0 : List S85) : impl_SegmentsOf.ret a0 = some (impl_SegmentsOf.toH (a0)) := rfl
theorem impl_SegmentsOf.br (n : Nat) : (∀ K, n ≤ K → ∀ (x4 : Int) (x0 : List S82) (x3 : List S85) t, impl_SegmentsOf.l0 n x0 x3 x4 = some t → impl_SegmentsOf.p5 K x4 x0 x3 = some (impl_SegmentsOf.toH t)) := by
  induction n using Nat.strongRecOn with
  | _ n ih =>
  intro K hK x4 x0 x3 t h
  all_goals (rcases n with _ | k)
  all_goals (try (exact nos h))
  all_goals (obtain ⟨K, rfl⟩ : ∃ q, K = q + 1 := ⟨K - 1, by omega⟩)
  all_goals (first | rw [impl_SegmentsOf.e5])
  all_goals (simp only [impl_SegmentsOf.l0] at h)
  repeat' (with_reducible first
   | exact nos h
   | (cases some_inj h; exact impl_SegmentsOf.rt _)
   | exact (ih _ (by omega)) _ (by omega) _ _ _ _ h
   | (simp only [Option.bind_some] at h)
   | (refine ite_by h (fun hc h => ?_) (fun hc h => ?_) <;> (try simp only [nrm] at hc))
   | refine itT ?_ (by first | assumption | omega | (simp only [nrm]; first | done | assumption | omega) | (simp only [nln] at hc ⊢; omega))
   | refine itF ?_ (by first | assumption | omega | (simp only [nrm]; first | done | assumption | omega) | (simp only [nln] at hc ⊢; omega))
   | (refine bind_by h (fun t ht h => ?_); refine (impl_IsLine.ap_of (impl_IsLine.go ht _ (by omega))).trans ?_; (try dsimp only at h ⊢))
   | (simp only [decide_not, Bool.decide_and, decide_true, Bool.and_true, Bool.not_and, beqI, Int.toNat_natCast, List.take_length] at h ⊢)
   | (exfalso; omega))
theorem impl_SegmentsOf.go {k : Nat} {l0 : List S82} {t} (h : impl_SegmentsOf.f k l0 = some t) (K : Nat) (hK : k ≤ K) : impl_SegmentsOf.run K (l0, ()) = some (impl_SegmentsOf.toH t) := by
  rw [impl_SegmentsOf.ef]
  (try dsimp only)
  unfold impl_SegmentsOf.f at h
  repeat' (with_reducible first
   | exact nos h
   | (cases some_inj h; exact impl_SegmentsOf.rt _)
   | exact (impl_SegmentsOf.br _) _ (by omega) _ _ _ _ h
   | (simp only [Option.bind_some] at h)
   | (refine ite_by h (fun hc h => ?_) (fun hc h => ?_) <;> (try simp only [nrm] at hc))
   | refine itT ?_ (by first | assumption | omega | (simp only [nrm]; first | done | assumption | omega) | (simp only [nln] at hc ⊢; omega))
   | refine itF ?_ (by first | assumption | omega | (simp only [nrm]; first | done | assumption | omega) | (simp only [nln] at hc ⊢; omega))
   | (refine bind_by h (fun t ht h => ?_); refine (impl_IsLine.ap_of (impl_IsLine.go ht _ (by omega))).trans ?_; (try dsimp only at h ⊢))
   | (simp only [decide_not, Bool.decide_and, decide_true, Bool.and_true, Bool.not_and, beqI, Int.toNat_natCast, List.take_length] at h ⊢)
   | (exfalso; omega))
def impl_IsSimple.Fs : List (Spc env) := [impl_IsLine.spec, impl_SegmentsOf.spec, impl_HowMeet.spec]
def impl_IsSimple.fin : St eΓ → Option (HL eΓ [.b]) := finR env Try.f124.results.toList [.b]
def impl_IsSimple.cut : Nat → Option (List (Lv SC)) := lk [(5, [⟨3, none, false⟩, ⟨13, none, false⟩, ⟨14, none, false⟩]), (8, [⟨3, none, false⟩, ⟨4, none, false⟩, ⟨13, none, false⟩, ⟨14, none, false⟩, ⟨17, none, false⟩, ⟨18, none, false⟩])]
def impl_IsSimple.ret (r0 : Bool) : Option (HL eΓ [.b]) := some (r0, ())
def impl_IsSimple.p5 (k : Nat) (x13 : Int) (x14 : Int) (x3 : List S85) : Option (HL eΓ [.b]) := evM env impl_IsSimple.Fs Try.f124.ntmps impl_IsSimple.fin impl_IsSimple.cut k [.code (sub_ [1, 1, 1, 0, 1, 0, 0, 0] (bodyOf Try.f124)), .code (sub_ [1, 1, 1, 0, 1, 0, 0, 1] (bodyOf Try.f124)), .lp (sub_ [1, 1, 1, 0, 1, 0, 0] (bodyOf Try.f124)), .blk 0, .code (sub_ [1, 1, 1, 1] (bodyOf Try.f124))] (mkSt [(3, .c (.sl 0)), (13, .c (.v (.int .i64 x13))), (14, .c (.v (.int .i64 x14)))] [.row .own 85 (.st .s85) x3])
def impl_IsSimple.p8 (k : Nat) (x4 : Int) (x13 : Int) (x14 : Int) (x17 : Int) (x18 : Int) (x3 : List S85) : Option (HL eΓ [.b]) := evM env impl_IsSimple.Fs Try.f124.ntmps impl_IsSimple.fin impl_IsSimple.cut k [.code (sub_ [1, 1, 1, 0, 1, 0, 0, 1, 1, 0, 0, 1, 1, 0, 0, 0] (bodyOf Try.f124)), .code (sub_ [1, 1, 1, 0, 1, 0, 0, 1, 1, 0, 0, 1, 1, 0, 0, 1] (bodyOf Try.f124)), .lp (sub_ [1, 1, 1, 0, 1, 0, 0, 1, 1, 0, 0, 1, 1, 0, 0] (bodyOf Try.f124)), .blk 2, .blk 1, .code (sub_ [1, 1, 1, 0, 1, 0, 0, 1, 1, 1] (bodyOf Try.f124)), .lp (sub_ [1, 1, 1, 0, 1, 0, 0] (bodyOf Try.f124)), .blk 0, .code (sub_ [1, 1, 1, 1] (bodyOf Try.f124))] (mkSt [(3, .c (.sl 0)), (4, .c (.v (.int .i64 x4))), (13, .c (.v (.int .i64 x13))), (14, .c (.v (.int .i64 x14))), (17, .c (.v (.int .i64 x17))), (18, .c (.v (.int .i64 x18)))] [.row .own 85 (.st .s85) x3])
theorem impl_IsSimple.e5 (k : Nat) (x13 : Int) (x14 : Int) (x3 : List S85) : impl_IsSimple.p5 (k + 1) x13 x14 x3 = if x14 < x13 then (impl_IsSimple.p8 k x14 x13 x14 x14 0 x3) else (impl_IsSimple.ret true) := by kernel_rfl
theorem impl_IsSimple.e8 (k : Nat) (x4 : Int) (x13 : Int) (x14 : Int) (x17 : Int) (x18 : Int) (x3 : List S85) : impl_IsSimple.p8 (k + 1) x4 x13 x14 x17 x18 x3 = if x18 < x17 then (if x18 = (wrap64 (x4 - 1)) then (if 0 ≤ x4 then (if x4 < (x3.length : Int) then (if 0 ≤ x18 then (if x18 < (x3.length : Int) then (impl_HowMeet.ap k (⟨(⟨(rd_T85 x3 x4).f0.f0, (rd_T85 x3 x4).f0.f1⟩ : S82), (⟨(rd_T85 x3 x4).f1.f0, (rd_T85 x3 x4).f1.f1⟩ : S82)⟩ : S85) (⟨(⟨(rd_T85 x3 x18).f0.f0, (rd_T85 x3 x18).f0.f1⟩ : S82), (⟨(rd_T85 x3 x18).f1.f0, (rd_T85 x3 x18).f1.f1⟩ : S82)⟩ : S85) fun r1 => if ¬ r1 = 1 then (impl_IsSimple.ret false) else (impl_IsSimple.p8 k x4 x13 x14 x17 (wrap64 (x18 + 1)) x3)) else none) else none) else none) else none) else (if 0 ≤ x4 then (if x4 < (x3.length : Int) then (if 0 ≤ x18 then (if x18 < (x3.length : Int) then (impl_HowMeet.ap k (⟨(⟨(rd_T85 x3 x4).f0.f0, (rd_T85 x3 x4).f0.f1⟩ : S82), (⟨(rd_T85 x3 x4).f1.f0, (rd_T85 x3 x4).f1.f1⟩ : S82)⟩ : S85) (⟨(⟨(rd_T85 x3 x18).f0.f0, (rd_T85 x3 x18).f0.f1⟩ : S82), (⟨(rd_T85 x3 x18).f1.f0, (rd_T85 x3 x18).f1.f1⟩ : S82)⟩ : S85) fun r2 => if ¬ r2 = 0 then (impl_IsSimple.ret false) else (impl_IsSimple.p8 k x4 x13 x14 x17 (wrap64 (x18 + 1)) x3)) else none) else none) else none) else none)) else (impl_IsSimple.p5 k x13 (wrap64 (x14 + 1)) x3) := by kernel_rfl
def impl_IsSimple.run (k : Nat) (h : HL eΓ [.l 82 (.st .s82)]) : Option (HL eΓ [.b]) := evF env impl_IsSimple.Fs Try.f124 impl_IsSimple.cut [.l 82 (.st .s82)] [.b] k h
theorem impl_IsSimple.ef (k : Nat) (h0 : List S82) : impl_IsSimple.run k (h0, ()) = impl_IsLine.ap k h0 fun r1 => if (!r1) = true then (impl_IsSimple.ret false) else (impl_SegmentsOf.ap k h0 fun r2 => impl_IsSimple.p5 k (r2.length : Int) 0 r2) := by kernel_rfl
def impl_IsSimple.toH (t : Bool) : HL eΓ [.b] := (t, ())
def impl_IsSimple.spec : Spc env := ⟨124, [.l 82 (.st .s82)], [.b], impl_IsSimple.run⟩
def impl_IsSimple.ap {R : Type} (k : Nat) (h0 : List S82) (K : Bool → Option R) : Option R := (impl_IsSimple.run k (h0, ())).bind fun r => K (r.1 : Bool)
theorem impl_IsSimple.ap_of {R : Type} {k : Nat} {h0 : List S82} {r0 : Bool} {K : Bool → Option R} (h : impl_IsSimple.run k (h0, ()) = some (r0, ())) : impl_IsSimple.ap k h0 K = K r0 := by unfold impl_IsSimple.ap; rw [h]; rfl
theorem impl_IsSimple.snd : Snd env impl_IsSimple.spec := evF_snd env_ok (sndC impl_IsLine.snd (sndC impl_SegmentsOf.snd (sndC impl_HowMeet.snd (sndN)))) (by kernel_rfl) (by kernel_rfl) (by kernel_rfl)
attribute [local irreducible] impl_IsSimple.run
theorem impl_IsSimple.rt (a0 : Bool) : impl_IsSimple.ret a0 = some (impl_IsSimple.toH (a0)) := rfl
theorem impl_IsSimple.br (n : Nat) : (∀ K, n ≤ K → ∀ (x13 : Int) (x14 : Int) (x3 : List S85) t, impl_IsSimple.l0 n x3 x13 x14 = some t → impl_IsSimple.p5 K x13 x14 x3 = some (impl_IsSimple.toH t)) ∧ (∀ K, n ≤ K → ∀ (x4 : Int) (x13 : Int) (x14 : Int) (x17 : Int) (x18 : Int) (x3 : List S85) t, impl_IsSimple.l1 n x3 x4 x13 x14 x17 x18 = some t → impl_IsSimple.p8 K x4 x13 x14 x17 x18 x3 = some (impl_IsSimple.toH t)) := by
  induction n using Nat.strongRecOn with
  | _ n ih =>
  refine ⟨fun K hK x13 x14 x3 t h => ?_, fun K hK x4 x13 x14 x17 x18 x3 t h => ?_⟩
  all_goals (rcases n with _ | k)
  all_goals (try (exact nos h))
  all_goals (obtain ⟨K, rfl⟩ : ∃ q, K = q + 1 := ⟨K - 1, by omega⟩)
  all_goals (first | rw [impl_IsSimple.e5] | rw [impl_IsSimple.e8])
  all_goals (simp only [impl_IsSimple.l0, impl_IsSimple.l1] at h)
  repeat' (with_reducible first
   | exact nos h
   | (cases some_inj h; exact impl_IsSimple.rt _)
   | exact (ih _ (by omega)).1 _ (by omega) _ _ _ _ h
   | exact (ih _ (by omega)).2 _ (by omega) _ _ _ _ _ _ _ h
   | (simp only [Option.bind_some] at h)
   | (refine ite_by h (fun hc h => ?_) (fun hc h => ?_) <;> (try simp only [nrm] at hc))
   | refine itT ?_ (by first | assumption | omega | (simp only [nrm]; first | done | assumption | omega) | (simp only [nln] at hc ⊢; omega))
   | refine itF ?_ (by first | assumption | omega | (simp only [nrm]; first | done | assumption | omega) | (simp only [nln] at hc ⊢; omega))
   | (refine bind_by h (fun t ht h => ?_); (first | refine (impl_IsLine.ap_of (impl_IsLine.go ht _ (by omega))).trans ?_ | refine (impl_SegmentsOf.ap_of (impl_SegmentsOf.go ht _ (by omega))).trans ?_ | refine (impl_HowMeet.ap_of (impl_HowMeet.go ht _ (by omega))).trans ?_); (try dsimp only at h ⊢))
   | (simp only [decide_not, Bool.decide_and, decide_true, Bool.and_true, Bool.not_and, beqI, Int.toNat_natCast, List.take_length] at h ⊢)
   | (exfalso; omega))
theorem impl_IsSimple.go {k : Nat} {l0 : List S82} {t} (h : impl_IsSimple.f k l0 = some t) (K : Nat) (hK : k ≤ K) : impl_IsSimple.run K (l0, ()) = some (impl_IsSimple.toH t) := by
  rw [impl_IsSimple.ef]
  (try dsimp only)
  unfold impl_IsSimple.f at h
  repeat' (with_reducible first
   | exact nos h
   | (cases some_inj h; exact impl_IsSimple.rt _)
   | exact (impl_IsSimple.br _).1 _ (by omega) _ _ _ _ h
   | exact (impl_IsSimple.br _).2 _ (by omega) _ _ _ _ _ _ _ h
   | (simp only [Option.bind_some] at h)
   | (refine ite_by h (fun hc h => ?_) (fun hc h => ?_) <;> (try simp only [nrm] at hc))
   | refine itT ?_ (by first | assumption | omega | (simp only [nrm]; first | done | assumption | omega) | (simp only [nln] at hc ⊢; omega))
   | refine itF ?_ (by first | assumption | omega | (simp only [nrm]; first | done | assumption | omega) | (simp only [nln] at hc ⊢; omega))
   | (refine bind_by h (fun t ht h => ?_); (first | refine (impl_IsLine.ap_of (impl_IsLine.go ht _ (by omega))).trans ?_ | refine (impl_SegmentsOf.ap_of (impl_SegmentsOf.go ht _ (by omega))).trans ?_ | refine (impl_HowMeet.ap_of (impl_HowMeet.go ht _ (by omega))).trans ?_); (try dsimp only at h ⊢))
   | (simp only [decide_not, Bool.decide_and, decide_true, Bool.and_true, Bool.not_and, beqI, Int.toNat_natCast, List.take_length] at h ⊢)
   | (exfalso; omega))
def impl_IsFeature.Fs : List (Spc env) := [impl_InRange.spec, impl_IsName.spec, impl_IsPoint.spec, impl_IsSimple.spec, impl_IsRing.spec]
def impl_IsFeature.cut : Nat → Option (List (Lv SC)) := lk []
def impl_IsFeature.ret (r0 : Bool) : Option (HL eΓ [.b]) := some (r0, ())
def impl_IsFeature.run (k : Nat) (h : HL eΓ [.st .s29]) : Option (HL eΓ [.b]) := evF env impl_IsFeature.Fs Try.f72 impl_IsFeature.cut [.st .s29] [.b] k h
theorem impl_IsFeature.ef (k : Nat) (h0 : S29) : impl_IsFeature.run k (h0, ()) = impl_InRange.ap k h0.f0 1 99 fun r1 => if (!r1) = true then (impl_IsFeature.ret false) else (impl_InRange.ap k h0.f2 0 9 fun r2 => if (!r2) = true then (impl_IsFeature.ret false) else (if ¬ h0.f3.toList = [] then (impl_IsName.ap k h0.f3 fun r3 => if (!r3) = true then (impl_IsFeature.ret false) else (if h0.f1 = 1 then (if (h0.f4.length : Int) = 1 then (if 0 < (h0.f4.length : Int) then (impl_IsPoint.ap k (⟨(rd_T82 h0.f4 0).f0, (rd_T82 h0.f4 0).f1⟩ : S82) fun r4 => impl_IsFeature.ret r4) else none) else (impl_IsFeature.ret false)) else (if h0.f1 = 2 then (impl_IsSimple.ap k h0.f4 fun r5 => impl_IsFeature.ret r5) else (if h0.f1 = 3 then (impl_IsRing.ap k h0.f4 fun r6 => impl_IsFeature.ret r6) else (impl_IsFeature.ret false))))) else (if h0.f1 = 1 then (if (h0.f4.length : Int) = 1 then (if 0 < (h0.f4.length : Int) then (impl_IsPoint.ap k (⟨(rd_T82 h0.f4 0).f0, (rd_T82 h0.f4 0).f1⟩ : S82) fun r7 => impl_IsFeature.ret r7) else none) else (impl_IsFeature.ret false)) else (if h0.f1 = 2 then (impl_IsSimple.ap k h0.f4 fun r8 => impl_IsFeature.ret r8) else (if h0.f1 = 3 then (impl_IsRing.ap k h0.f4 fun r9 => impl_IsFeature.ret r9) else (impl_IsFeature.ret false)))))) := by kernel_rfl
def impl_IsFeature.toH (t : Bool) : HL eΓ [.b] := (t, ())
def impl_IsFeature.spec : Spc env := ⟨72, [.st .s29], [.b], impl_IsFeature.run⟩
def impl_IsFeature.ap {R : Type} (k : Nat) (h0 : S29) (K : Bool → Option R) : Option R := (impl_IsFeature.run k (h0, ())).bind fun r => K (r.1 : Bool)
theorem impl_IsFeature.ap_of {R : Type} {k : Nat} {h0 : S29} {r0 : Bool} {K : Bool → Option R} (h : impl_IsFeature.run k (h0, ()) = some (r0, ())) : impl_IsFeature.ap k h0 K = K r0 := by unfold impl_IsFeature.ap; rw [h]; rfl
theorem impl_IsFeature.snd : Snd env impl_IsFeature.spec := evF_snd env_ok (sndC impl_InRange.snd (sndC impl_IsName.snd (sndC impl_IsPoint.snd (sndC impl_IsSimple.snd (sndC impl_IsRing.snd (sndN)))))) (by kernel_rfl) (by kernel_rfl) (by kernel_rfl)
attribute [local irreducible] impl_IsFeature.run
theorem impl_IsFeature.rt (a0 : Bool) : impl_IsFeature.ret a0 = some (impl_IsFeature.toH (a0)) := rfl
theorem impl_IsFeature.go {k : Nat} {a0_0 : Int} {a0_1 : Int} {a0_2 : Int} {a0_3 : ByteArray} {l0_4 : List S82} {t} (h : impl_IsFeature.f k a0_0 a0_1 a0_2 a0_3 l0_4 = some t) (K : Nat) (hK : k ≤ K) : impl_IsFeature.run K ((⟨a0_0, a0_1, a0_2, a0_3, l0_4⟩ : S29), ()) = some (impl_IsFeature.toH t) := by
  rw [impl_IsFeature.ef]
  (try dsimp only)
  unfold impl_IsFeature.f at h
  repeat' (with_reducible first
   | exact nos h
   | (cases some_inj h; exact impl_IsFeature.rt _)
   | ((have q : impl_IsFeature.j0 k _ _ _ _ _ _ = some _ := h; clear q); rcases k with _ | k <;> simp only [impl_IsFeature.j0, reduceCtorEq] at h)
   | (simp only [Option.bind_some] at h)
   | (refine ite_by h (fun hc h => ?_) (fun hc h => ?_) <;> (try simp only [nrm] at hc))
   | refine itT ?_ (by first | assumption | omega | (simp only [nrm]; first | done | assumption | omega) | (simp only [nln] at hc ⊢; omega))
   | refine itF ?_ (by first | assumption | omega | (simp only [nrm]; first | done | assumption | omega) | (simp only [nln] at hc ⊢; omega))
   | (refine bind_by h (fun t ht h => ?_); (first | refine (impl_InRange.ap_of (impl_InRange.go ht _)).trans ?_ | refine (impl_IsName.ap_of (impl_IsName.go ht _ (by omega))).trans ?_ | refine (impl_IsPoint.ap_of (impl_IsPoint.go ht _)).trans ?_ | refine (impl_IsSimple.ap_of (impl_IsSimple.go ht _ (by omega))).trans ?_ | refine (impl_IsRing.ap_of (impl_IsRing.go ht _ (by omega))).trans ?_); (try dsimp only at h ⊢))
   | (simp only [decide_not, Bool.decide_and, decide_true, Bool.and_true, Bool.not_and, beqI, Int.toNat_natCast, List.take_length] at h ⊢)
   | (exfalso; omega))
def impl_IsSource.Fs : List (Spc env) := [impl_IsFeature.spec]
def impl_IsSource.fin : St eΓ → Option (HL eΓ [.b]) := finR env Try.f85.results.toList [.b]
def impl_IsSource.cut : Nat → Option (List (Lv SC)) := lk [(4, [⟨0, none, false⟩, ⟨8, none, false⟩, ⟨9, none, false⟩, ⟨10, none, false⟩])]
def impl_IsSource.ret (r0 : Bool) : Option (HL eΓ [.b]) := some (r0, ())
def impl_IsSource.p4 (k : Nat) (x9 : Int) (x10 : Int) (x0 : List S29) : Option (HL eΓ [.b]) := evM env impl_IsSource.Fs Try.f85.ntmps impl_IsSource.fin impl_IsSource.cut k [.code (sub_ [1, 1, 0, 1, 0, 0, 0] (bodyOf Try.f85)), .code (sub_ [1, 1, 0, 1, 0, 0, 1] (bodyOf Try.f85)), .lp (sub_ [1, 1, 0, 1, 0, 0] (bodyOf Try.f85)), .blk 0, .code (sub_ [1, 1, 1] (bodyOf Try.f85))] (mkSt [(0, .c (.sl 0)), (8, .c (.sl 0)), (9, .c (.v (.int .i64 x9))), (10, .c (.v (.int .i64 x10)))] [.row .ro 29 (.st .s29) x0])
theorem impl_IsSource.e4 (k : Nat) (x9 : Int) (x10 : Int) (x0 : List S29) : impl_IsSource.p4 (k + 1) x9 x10 x0 = if x10 < x9 then (if 0 ≤ x10 then (if x10 < (x0.length : Int) then (impl_IsFeature.ap k (⟨(rd_T29 x0 x10).f0, (rd_T29 x0 x10).f1, (rd_T29 x0 x10).f2, (rd_T29 x0 x10).f3, (rd_T29 x0 x10).f4⟩ : S29) fun r1 => if (!r1) = true then (impl_IsSource.ret false) else (if x10 > 0 then (if 0 ≤ (wrap64 (x10 - 1)) then (if (wrap64 (x10 - 1)) < (x0.length : Int) then (if ((rd_T29 x0 x10).f0) ≤ ((rd_T29 x0 (wrap64 (x10 - 1))).f0) then (impl_IsSource.ret false) else (impl_IsSource.p4 k x9 (wrap64 (x10 + 1)) x0)) else none) else none) else (impl_IsSource.p4 k x9 (wrap64 (x10 + 1)) x0))) else none) else none) else (impl_IsSource.ret true) := by kernel_rfl
def impl_IsSource.run (k : Nat) (h : HL eΓ [.l 29 (.st .s29)]) : Option (HL eΓ [.b]) := evF env impl_IsSource.Fs Try.f85 impl_IsSource.cut [.l 29 (.st .s29)] [.b] k h
theorem impl_IsSource.ef (k : Nat) (h0 : List S29) : impl_IsSource.run k (h0, ()) = if (h0.length : Int) > 16 then (impl_IsSource.ret false) else (impl_IsSource.p4 k (h0.length : Int) 0 h0) := by kernel_rfl
def impl_IsSource.toH (t : Bool) : HL eΓ [.b] := (t, ())
def impl_IsSource.spec : Spc env := ⟨85, [.l 29 (.st .s29)], [.b], impl_IsSource.run⟩
def impl_IsSource.ap {R : Type} (k : Nat) (h0 : List S29) (K : Bool → Option R) : Option R := (impl_IsSource.run k (h0, ())).bind fun r => K (r.1 : Bool)
theorem impl_IsSource.ap_of {R : Type} {k : Nat} {h0 : List S29} {r0 : Bool} {K : Bool → Option R} (h : impl_IsSource.run k (h0, ()) = some (r0, ())) : impl_IsSource.ap k h0 K = K r0 := by unfold impl_IsSource.ap; rw [h]; rfl
theorem impl_IsSource.snd : Snd env impl_IsSource.spec := evF_snd env_ok (sndC impl_IsFeature.snd (sndN)) (by kernel_rfl) (by kernel_rfl) (by kernel_rfl)
attribute [local irreducible] impl_IsSource.run
theorem impl_IsSource.rt (a0 : Bool) : impl_IsSource.ret a0 = some (impl_IsSource.toH (a0)) := rfl
theorem impl_IsSource.br (n : Nat) : (∀ K, n ≤ K → ∀ (x9 : Int) (x10 : Int) (x0 : List S29) t, impl_IsSource.l0 n x0 x0 x9 x10 = some t → impl_IsSource.p4 K x9 x10 x0 = some (impl_IsSource.toH t)) := by
  induction n using Nat.strongRecOn with
  | _ n ih =>
  intro K hK x9 x10 x0 t h
  all_goals (rcases n with _ | k)
  all_goals (try (exact nos h))
  all_goals (obtain ⟨K, rfl⟩ : ∃ q, K = q + 1 := ⟨K - 1, by omega⟩)
  all_goals (first | rw [impl_IsSource.e4])
  all_goals (simp only [impl_IsSource.l0] at h)
  repeat' (with_reducible first
   | exact nos h
   | (cases some_inj h; exact impl_IsSource.rt _)
   | exact (ih _ (by omega)) _ (by omega) _ _ _ _ h
   | (simp only [Option.bind_some] at h)
   | (refine ite_by h (fun hc h => ?_) (fun hc h => ?_) <;> (try simp only [nrm] at hc))
   | refine itT ?_ (by first | assumption | omega | (simp only [nrm]; first | done | assumption | omega) | (simp only [nln] at hc ⊢; omega))
   | refine itF ?_ (by first | assumption | omega | (simp only [nrm]; first | done | assumption | omega) | (simp only [nln] at hc ⊢; omega))
   | (refine bind_by h (fun t ht h => ?_); refine (impl_IsFeature.ap_of (impl_IsFeature.go ht _ (by omega))).trans ?_; (try dsimp only at h ⊢))
   | (simp only [decide_not, Bool.decide_and, decide_true, Bool.and_true, Bool.not_and, beqI, Int.toNat_natCast, List.take_length] at h ⊢)
   | (exfalso; omega))
theorem impl_IsSource.go {k : Nat} {l0 : List S29} {t} (h : impl_IsSource.f k l0 = some t) (K : Nat) (hK : k ≤ K) : impl_IsSource.run K (l0, ()) = some (impl_IsSource.toH t) := by
  rw [impl_IsSource.ef]
  (try dsimp only)
  unfold impl_IsSource.f at h
  repeat' (with_reducible first
   | exact nos h
   | (cases some_inj h; exact impl_IsSource.rt _)
   | exact (impl_IsSource.br _) _ (by omega) _ _ _ _ h
   | (simp only [Option.bind_some] at h)
   | (refine ite_by h (fun hc h => ?_) (fun hc h => ?_) <;> (try simp only [nrm] at hc))
   | refine itT ?_ (by first | assumption | omega | (simp only [nrm]; first | done | assumption | omega) | (simp only [nln] at hc ⊢; omega))
   | refine itF ?_ (by first | assumption | omega | (simp only [nrm]; first | done | assumption | omega) | (simp only [nln] at hc ⊢; omega))
   | (refine bind_by h (fun t ht h => ?_); refine (impl_IsFeature.ap_of (impl_IsFeature.go ht _ (by omega))).trans ?_; (try dsimp only at h ⊢))
   | (simp only [decide_not, Bool.decide_and, decide_true, Bool.and_true, Bool.not_and, beqI, Int.toNat_natCast, List.take_length] at h ⊢)
   | (exfalso; omega))
def impl_common.Fs : List (Spc env) := []
def impl_common.cut : Nat → Option (List (Lv SC)) := lk []
def impl_common.ret (r0 : Int) (r1 : Int) : Option (HL eΓ [.i .i64, .i .i64]) := some (r0, r1, ())
def impl_common.run (k : Nat) (h : HL eΓ [.st .s98, .st .s98]) : Option (HL eΓ [.i .i64, .i .i64]) := evF env impl_common.Fs Try.f159 impl_common.cut [.st .s98, .st .s98] [.i .i64, .i .i64] k h
theorem impl_common.ef (k : Nat) (h0 : S98) (h1 : S98) : impl_common.run k (h0, h1, ()) = impl_common.ret (wrap64 ((mn h0.f1.f0 h1.f1.f0) - (mx h0.f0.f0 h1.f0.f0))) (wrap64 ((mn h0.f1.f1 h1.f1.f1) - (mx h0.f0.f1 h1.f0.f1))) := by kernel_rfl
def impl_common.toH (t : Int × Int) : HL eΓ [.i .i64, .i .i64] := (t.1, t.2, ())
def impl_common.spec : Spc env := ⟨159, [.st .s98, .st .s98], [.i .i64, .i .i64], impl_common.run⟩
def impl_common.ap {R : Type} (k : Nat) (h0 : S98) (h1 : S98) (K : Int → Int → Option R) : Option R := (impl_common.run k (h0, h1, ())).bind fun r => K (r.1 : Int) (r.2.1 : Int)
theorem impl_common.ap_of {R : Type} {k : Nat} {h0 : S98} {h1 : S98} {r0 : Int} {r1 : Int} {K : Int → Int → Option R} (h : impl_common.run k (h0, h1, ()) = some (r0, r1, ())) : impl_common.ap k h0 h1 K = K r0 r1 := by unfold impl_common.ap; rw [h]; rfl
theorem impl_common.snd : Snd env impl_common.spec := evF_snd env_ok (sndN) (by kernel_rfl) (by kernel_rfl) (by kernel_rfl)
attribute [local irreducible] impl_common.run
theorem impl_common.rt (a0 : Int) (a1 : Int) : impl_common.ret a0 a1 = some (impl_common.toH (a0, a1)) := rfl
theorem impl_common.go {a0_0 : Int} {a0_1 : Int} {a0_2 : Int} {a0_3 : Int} {a1_0 : Int} {a1_1 : Int} {a1_2 : Int} {a1_3 : Int} {t} (h : impl_common.f a0_0 a0_1 a0_2 a0_3 a1_0 a1_1 a1_2 a1_3 = some t) (K : Nat) : impl_common.run K ((⟨(⟨a0_0, a0_1⟩ : S82), (⟨a0_2, a0_3⟩ : S82)⟩ : S98), (⟨(⟨a1_0, a1_1⟩ : S82), (⟨a1_2, a1_3⟩ : S82)⟩ : S98), ()) = some (impl_common.toH t) := by
  rw [impl_common.ef]
  (try dsimp only)
  unfold impl_common.f at h
  repeat' (with_reducible first
   | exact nos h
   | (cases some_inj h; exact impl_common.rt _ _)
   | (simp only [Option.bind_some] at h)
   | (refine ite_by h (fun hc h => ?_) (fun hc h => ?_) <;> (try simp only [nrm] at hc))
   | refine itT ?_ (by first | assumption | omega | (simp only [nrm]; first | done | assumption | omega) | (simp only [nln] at hc ⊢; omega))
   | refine itF ?_ (by first | assumption | omega | (simp only [nrm]; first | done | assumption | omega) | (simp only [nln] at hc ⊢; omega))
   | (simp only [decide_not, Bool.decide_and, decide_true, Bool.and_true, Bool.not_and, beqI, Int.toNat_natCast, List.take_length] at h ⊢)
   | (exfalso; omega))
def impl_IsBox.Fs : List (Spc env) := [impl_IsPoint.spec]
def impl_IsBox.cut : Nat → Option (List (Lv SC)) := lk []
def impl_IsBox.ret (r0 : Bool) : Option (HL eΓ [.b]) := some (r0, ())
def impl_IsBox.run (k : Nat) (h : HL eΓ [.st .s98]) : Option (HL eΓ [.b]) := evF env impl_IsBox.Fs Try.f160 impl_IsBox.cut [.st .s98] [.b] k h
theorem impl_IsBox.ef (k : Nat) (h0 : S98) : impl_IsBox.run k (h0, ()) = impl_IsPoint.ap k (⟨h0.f0.f0, h0.f0.f1⟩ : S82) fun r1 => if r1 = true then (impl_IsPoint.ap k (⟨h0.f1.f0, h0.f1.f1⟩ : S82) fun r2 => if r2 = true then (if h0.f0.f0 ≤ h0.f1.f0 then (impl_IsBox.ret (decide (h0.f0.f1 ≤ h0.f1.f1))) else (impl_IsBox.ret false)) else (impl_IsBox.ret false)) else (impl_IsBox.ret false) := by kernel_rfl
def impl_IsBox.toH (t : Bool) : HL eΓ [.b] := (t, ())
def impl_IsBox.spec : Spc env := ⟨160, [.st .s98], [.b], impl_IsBox.run⟩
def impl_IsBox.ap {R : Type} (k : Nat) (h0 : S98) (K : Bool → Option R) : Option R := (impl_IsBox.run k (h0, ())).bind fun r => K (r.1 : Bool)
theorem impl_IsBox.ap_of {R : Type} {k : Nat} {h0 : S98} {r0 : Bool} {K : Bool → Option R} (h : impl_IsBox.run k (h0, ()) = some (r0, ())) : impl_IsBox.ap k h0 K = K r0 := by unfold impl_IsBox.ap; rw [h]; rfl
theorem impl_IsBox.snd : Snd env impl_IsBox.spec := evF_snd env_ok (sndC impl_IsPoint.snd (sndN)) (by kernel_rfl) (by kernel_rfl) (by kernel_rfl)
attribute [local irreducible] impl_IsBox.run
theorem impl_IsBox.rt (a0 : Bool) : impl_IsBox.ret a0 = some (impl_IsBox.toH (a0)) := rfl
theorem impl_IsBox.go {a0_0 : Int} {a0_1 : Int} {a0_2 : Int} {a0_3 : Int} {t} (h : impl_IsBox.f a0_0 a0_1 a0_2 a0_3 = some t) (K : Nat) : impl_IsBox.run K ((⟨(⟨a0_0, a0_1⟩ : S82), (⟨a0_2, a0_3⟩ : S82)⟩ : S98), ()) = some (impl_IsBox.toH t) := by
  rw [impl_IsBox.ef]
  (try dsimp only)
  unfold impl_IsBox.f at h
  repeat' (with_reducible first
   | exact nos h
   | (cases some_inj h; exact impl_IsBox.rt _)
   | (simp only [Option.bind_some] at h)
   | (refine ite_by h (fun hc h => ?_) (fun hc h => ?_) <;> (try simp only [nrm] at hc))
   | refine itT ?_ (by first | assumption | omega | (simp only [nrm]; first | done | assumption | omega) | (simp only [nln] at hc ⊢; omega))
   | refine itF ?_ (by first | assumption | omega | (simp only [nrm]; first | done | assumption | omega) | (simp only [nln] at hc ⊢; omega))
   | (refine bind_by h (fun t ht h => ?_); refine (impl_IsPoint.ap_of (impl_IsPoint.go ht _)).trans ?_; (try dsimp only at h ⊢))
   | (simp only [decide_not, Bool.decide_and, decide_true, Bool.and_true, Bool.not_and, beqI, Int.toNat_natCast, List.take_length] at h ⊢)
   | (exfalso; omega))
def impl_BoxesOverlap.Fs : List (Spc env) := [impl_common.spec, impl_IsBox.spec]
def impl_BoxesOverlap.cut : Nat → Option (List (Lv SC)) := lk []
def impl_BoxesOverlap.ret (r0 : Bool) : Option (HL eΓ [.b]) := some (r0, ())
def impl_BoxesOverlap.run (k : Nat) (h : HL eΓ [.st .s98, .st .s98]) : Option (HL eΓ [.b]) := evF env impl_BoxesOverlap.Fs Try.f136 impl_BoxesOverlap.cut [.st .s98, .st .s98] [.b] k h
theorem impl_BoxesOverlap.ef (k : Nat) (h0 : S98) (h1 : S98) : impl_BoxesOverlap.run k (h0, h1, ()) = impl_common.ap k (⟨(⟨h0.f0.f0, h0.f0.f1⟩ : S82), (⟨h0.f1.f0, h0.f1.f1⟩ : S82)⟩ : S98) (⟨(⟨h1.f0.f0, h1.f0.f1⟩ : S82), (⟨h1.f1.f0, h1.f1.f1⟩ : S82)⟩ : S98) fun r1_0 r1_1 => impl_IsBox.ap k (⟨(⟨h0.f0.f0, h0.f0.f1⟩ : S82), (⟨h0.f1.f0, h0.f1.f1⟩ : S82)⟩ : S98) fun r2 => if r2 = true then (impl_IsBox.ap k (⟨(⟨h1.f0.f0, h1.f0.f1⟩ : S82), (⟨h1.f1.f0, h1.f1.f1⟩ : S82)⟩ : S98) fun r3 => if r3 = true then (if r1_0 > 0 then (impl_BoxesOverlap.ret (decide (r1_1 > 0))) else (impl_BoxesOverlap.ret false)) else (impl_BoxesOverlap.ret false)) else (impl_BoxesOverlap.ret false) := by kernel_rfl
def impl_BoxesOverlap.toH (t : Bool) : HL eΓ [.b] := (t, ())
def impl_BoxesOverlap.spec : Spc env := ⟨136, [.st .s98, .st .s98], [.b], impl_BoxesOverlap.run⟩
def impl_BoxesOverlap.ap {R : Type} (k : Nat) (h0 : S98) (h1 : S98) (K : Bool → Option R) : Option R := (impl_BoxesOverlap.run k (h0, h1, ())).bind fun r => K (r.1 : Bool)
theorem impl_BoxesOverlap.ap_of {R : Type} {k : Nat} {h0 : S98} {h1 : S98} {r0 : Bool} {K : Bool → Option R} (h : impl_BoxesOverlap.run k (h0, h1, ()) = some (r0, ())) : impl_BoxesOverlap.ap k h0 h1 K = K r0 := by unfold impl_BoxesOverlap.ap; rw [h]; rfl
theorem impl_BoxesOverlap.snd : Snd env impl_BoxesOverlap.spec := evF_snd env_ok (sndC impl_common.snd (sndC impl_IsBox.snd (sndN))) (by kernel_rfl) (by kernel_rfl) (by kernel_rfl)
attribute [local irreducible] impl_BoxesOverlap.run
theorem impl_BoxesOverlap.rt (a0 : Bool) : impl_BoxesOverlap.ret a0 = some (impl_BoxesOverlap.toH (a0)) := rfl
theorem impl_BoxesOverlap.go {a0_0 : Int} {a0_1 : Int} {a0_2 : Int} {a0_3 : Int} {a1_0 : Int} {a1_1 : Int} {a1_2 : Int} {a1_3 : Int} {t} (h : impl_BoxesOverlap.f a0_0 a0_1 a0_2 a0_3 a1_0 a1_1 a1_2 a1_3 = some t) (K : Nat) : impl_BoxesOverlap.run K ((⟨(⟨a0_0, a0_1⟩ : S82), (⟨a0_2, a0_3⟩ : S82)⟩ : S98), (⟨(⟨a1_0, a1_1⟩ : S82), (⟨a1_2, a1_3⟩ : S82)⟩ : S98), ()) = some (impl_BoxesOverlap.toH t) := by
  rw [impl_BoxesOverlap.ef]
  (try dsimp only)
  unfold impl_BoxesOverlap.f at h
  repeat' (with_reducible first
   | exact nos h
   | (cases some_inj h; exact impl_BoxesOverlap.rt _)
   | (simp only [Option.bind_some] at h)
   | (refine ite_by h (fun hc h => ?_) (fun hc h => ?_) <;> (try simp only [nrm] at hc))
   | refine itT ?_ (by first | assumption | omega | (simp only [nrm]; first | done | assumption | omega) | (simp only [nln] at hc ⊢; omega))
   | refine itF ?_ (by first | assumption | omega | (simp only [nrm]; first | done | assumption | omega) | (simp only [nln] at hc ⊢; omega))
   | (refine bind_by h (fun t ht h => ?_); (first | refine (impl_common.ap_of (impl_common.go ht _)).trans ?_ | refine (impl_IsBox.ap_of (impl_IsBox.go ht _)).trans ?_); (try dsimp only at h ⊢))
   | (simp only [decide_not, Bool.decide_and, decide_true, Bool.and_true, Bool.not_and, beqI, Int.toNat_natCast, List.take_length] at h ⊢)
   | (exfalso; omega))
def impl_AreApart.Fs : List (Spc env) := [impl_BoxesOverlap.spec]
def impl_AreApart.fin : St eΓ → Option (HL eΓ [.b]) := finR env Try.f93.results.toList [.b]
def impl_AreApart.cut : Nat → Option (List (Lv SC)) := lk [(2, [⟨0, none, false⟩, ⟨7, none, false⟩, ⟨8, none, false⟩, ⟨9, none, false⟩]), (5, [⟨0, none, false⟩, ⟨4, none, false⟩, ⟨7, none, false⟩, ⟨8, none, false⟩, ⟨9, none, false⟩, ⟨17, none, false⟩, ⟨18, none, false⟩, ⟨19, none, false⟩])]
def impl_AreApart.ret (r0 : Bool) : Option (HL eΓ [.b]) := some (r0, ())
def impl_AreApart.p2 (k : Nat) (x8 : Int) (x9 : Int) (x0 : List S100) : Option (HL eΓ [.b]) := evM env impl_AreApart.Fs Try.f93.ntmps impl_AreApart.fin impl_AreApart.cut k [.code (sub_ [1, 0, 1, 0, 0, 0] (bodyOf Try.f93)), .code (sub_ [1, 0, 1, 0, 0, 1] (bodyOf Try.f93)), .lp (sub_ [1, 0, 1, 0, 0] (bodyOf Try.f93)), .blk 0, .code (sub_ [1, 1] (bodyOf Try.f93))] (mkSt [(0, .c (.sl 0)), (7, .c (.sl 0)), (8, .c (.v (.int .i64 x8))), (9, .c (.v (.int .i64 x9)))] [.row .ro 100 (.st .s100) x0])
def impl_AreApart.p5 (k : Nat) (x8 : Int) (x9 : Int) (x18 : Int) (x19 : Int) (x0 : List S100) (b1_0 : Int) (b1_1 : ByteArray) (b1_2 : Int) (b1_3 : Int) (b1_4 : Int) (b1_5 : Int) (x17 : List S100) : Option (HL eΓ [.b]) := evM env impl_AreApart.Fs Try.f93.ntmps impl_AreApart.fin impl_AreApart.cut k [.code (sub_ [1, 0, 1, 0, 0, 1, 1, 0, 0, 1, 1, 0, 0, 0] (bodyOf Try.f93)), .code (sub_ [1, 0, 1, 0, 0, 1, 1, 0, 0, 1, 1, 0, 0, 1] (bodyOf Try.f93)), .lp (sub_ [1, 0, 1, 0, 0, 1, 1, 0, 0, 1, 1, 0, 0] (bodyOf Try.f93)), .blk 2, .blk 1, .code (sub_ [1, 0, 1, 0, 0, 1, 1, 1] (bodyOf Try.f93)), .lp (sub_ [1, 0, 1, 0, 0] (bodyOf Try.f93)), .blk 0, .code (sub_ [1, 1] (bodyOf Try.f93))] (mkSt [(0, .c (.sl 0)), (4, .c (.ptr 1 0)), (7, .c (.sl 0)), (8, .c (.v (.int .i64 x8))), (9, .c (.v (.int .i64 x9))), (17, .c (.sl 2)), (18, .c (.v (.int .i64 x18))), (19, .c (.v (.int .i64 x19)))] [.row .ro 100 (.st .s100) x0, .box 100 [.v (.int .i64 b1_0), .v (.string b1_1), .v (.int .i64 b1_2), .v (.int .i64 b1_3), .v (.int .i64 b1_4), .v (.int .i64 b1_5)], .row (.view 0) 100 (.st .s100) x17])
theorem impl_AreApart.e2 (k : Nat) (x8 : Int) (x9 : Int) (x0 : List S100) : impl_AreApart.p2 (k + 1) x8 x9 x0 = if x9 < x8 then (if 0 ≤ x9 then (if x9 < (x0.length : Int) then (if 0 ≤ (x0.length : Int) then (if (x0.length : Int) ≤ (x0.length : Int) then (if 0 ≤ (wrap64 (x9 + 1)) then (if (wrap64 (x9 + 1)) ≤ (x0.length : Int) then (impl_AreApart.p5 k x8 x9 (((x0.take (x0.length : Int).toNat).drop (wrap64 (x9 + 1)).toNat).length : Int) 0 x0 ((rd_T100 x0 x9).f0) ((rd_T100 x0 x9).f1) ((rd_T100 x0 x9).f2.f0.f0) ((rd_T100 x0 x9).f2.f0.f1) ((rd_T100 x0 x9).f2.f1.f0) ((rd_T100 x0 x9).f2.f1.f1) ((x0.take (x0.length : Int).toNat).drop (wrap64 (x9 + 1)).toNat)) else none) else none) else none) else none) else none) else none) else (impl_AreApart.ret true) := by kernel_rfl
theorem impl_AreApart.e5 (k : Nat) (x8 : Int) (x9 : Int) (x18 : Int) (x19 : Int) (x0 : List S100) (b1_0 : Int) (b1_1 : ByteArray) (b1_2 : Int) (b1_3 : Int) (b1_4 : Int) (b1_5 : Int) (x17 : List S100) : impl_AreApart.p5 (k + 1) x8 x9 x18 x19 x0 b1_0 b1_1 b1_2 b1_3 b1_4 b1_5 x17 = if x19 < x18 then (if 0 ≤ x19 then (if x19 < (x17.length : Int) then (impl_BoxesOverlap.ap k (⟨(⟨b1_2, b1_3⟩ : S82), (⟨b1_4, b1_5⟩ : S82)⟩ : S98) (⟨(⟨(rd_T100 x17 x19).f2.f0.f0, (rd_T100 x17 x19).f2.f0.f1⟩ : S82), (⟨(rd_T100 x17 x19).f2.f1.f0, (rd_T100 x17 x19).f2.f1.f1⟩ : S82)⟩ : S98) fun r1 => if r1 = true then (impl_AreApart.ret false) else (impl_AreApart.p5 k x8 x9 x18 (wrap64 (x19 + 1)) x0 b1_0 b1_1 b1_2 b1_3 b1_4 b1_5 x17)) else none) else none) else (impl_AreApart.p2 k x8 (wrap64 (x9 + 1)) x0) := by kernel_rfl
def impl_AreApart.run (k : Nat) (h : HL eΓ [.l 100 (.st .s100)]) : Option (HL eΓ [.b]) := evF env impl_AreApart.Fs Try.f93 impl_AreApart.cut [.l 100 (.st .s100)] [.b] k h
theorem impl_AreApart.ef (k : Nat) (h0 : List S100) : impl_AreApart.run k (h0, ()) = impl_AreApart.p2 k (h0.length : Int) 0 h0 := by kernel_rfl
def impl_AreApart.toH (t : Bool) : HL eΓ [.b] := (t, ())
def impl_AreApart.spec : Spc env := ⟨93, [.l 100 (.st .s100)], [.b], impl_AreApart.run⟩
def impl_AreApart.ap {R : Type} (k : Nat) (h0 : List S100) (K : Bool → Option R) : Option R := (impl_AreApart.run k (h0, ())).bind fun r => K (r.1 : Bool)
theorem impl_AreApart.ap_of {R : Type} {k : Nat} {h0 : List S100} {r0 : Bool} {K : Bool → Option R} (h : impl_AreApart.run k (h0, ()) = some (r0, ())) : impl_AreApart.ap k h0 K = K r0 := by unfold impl_AreApart.ap; rw [h]; rfl
theorem impl_AreApart.snd : Snd env impl_AreApart.spec := evF_snd env_ok (sndC impl_BoxesOverlap.snd (sndN)) (by kernel_rfl) (by kernel_rfl) (by kernel_rfl)
attribute [local irreducible] impl_AreApart.run
theorem impl_AreApart.rt (a0 : Bool) : impl_AreApart.ret a0 = some (impl_AreApart.toH (a0)) := rfl
theorem impl_AreApart.br (n : Nat) : (∀ K, n ≤ K → ∀ (x8 : Int) (x9 : Int) (x0 : List S100) t, impl_AreApart.l0 n x0 x0 x8 x9 = some t → impl_AreApart.p2 K x8 x9 x0 = some (impl_AreApart.toH t)) ∧ (∀ K, n ≤ K → ∀ (x8 : Int) (x9 : Int) (x18 : Int) (x19 : Int) (x0 : List S100) (b1_0 : Int) (b1_1 : ByteArray) (b1_2 : Int) (b1_3 : Int) (b1_4 : Int) (b1_5 : Int) (x17 : List S100) t, impl_AreApart.l1 n x0 x0 x8 x9 x17 x18 x19 b1_0 b1_1 b1_2 b1_3 b1_4 b1_5 = some t → impl_AreApart.p5 K x8 x9 x18 x19 x0 b1_0 b1_1 b1_2 b1_3 b1_4 b1_5 x17 = some (impl_AreApart.toH t)) := by
  induction n using Nat.strongRecOn with
  | _ n ih =>
  refine ⟨fun K hK x8 x9 x0 t h => ?_, fun K hK x8 x9 x18 x19 x0 b1_0 b1_1 b1_2 b1_3 b1_4 b1_5 x17 t h => ?_⟩
  all_goals (rcases n with _ | k)
  all_goals (try (exact nos h))
  all_goals (obtain ⟨K, rfl⟩ : ∃ q, K = q + 1 := ⟨K - 1, by omega⟩)
  all_goals (first | rw [impl_AreApart.e2] | rw [impl_AreApart.e5])
  all_goals (simp only [impl_AreApart.l0, impl_AreApart.l1] at h)
  repeat' (with_reducible first
   | exact nos h
   | (cases some_inj h; exact impl_AreApart.rt _)
   | exact (ih _ (by omega)).1 _ (by omega) _ _ _ _ h
   | exact (ih _ (by omega)).2 _ (by omega) _ _ _ _ _ _ _ _ _ _ _ _ _ h
   | (simp only [Option.bind_some] at h)
   | (refine ite_by h (fun hc h => ?_) (fun hc h => ?_) <;> (try simp only [nrm] at hc))
   | refine itT ?_ (by first | assumption | omega | (simp only [nrm]; first | done | assumption | omega) | (simp only [nln] at hc ⊢; omega))
   | refine itF ?_ (by first | assumption | omega | (simp only [nrm]; first | done | assumption | omega) | (simp only [nln] at hc ⊢; omega))
   | (refine bind_by h (fun t ht h => ?_); refine (impl_BoxesOverlap.ap_of (impl_BoxesOverlap.go ht _)).trans ?_; (try dsimp only at h ⊢))
   | (simp only [decide_not, Bool.decide_and, decide_true, Bool.and_true, Bool.not_and, beqI, Int.toNat_natCast, List.take_length] at h ⊢)
   | (exfalso; omega))
theorem impl_AreApart.go {k : Nat} {l0 : List S100} {t} (h : impl_AreApart.f k l0 = some t) (K : Nat) (hK : k ≤ K) : impl_AreApart.run K (l0, ()) = some (impl_AreApart.toH t) := by
  rw [impl_AreApart.ef]
  (try dsimp only)
  unfold impl_AreApart.f at h
  repeat' (with_reducible first
   | exact nos h
   | (cases some_inj h; exact impl_AreApart.rt _)
   | exact (impl_AreApart.br _).1 _ (by omega) _ _ _ _ h
   | exact (impl_AreApart.br _).2 _ (by omega) _ _ _ _ _ _ _ _ _ _ _ _ _ h
   | (simp only [Option.bind_some] at h)
   | (refine ite_by h (fun hc h => ?_) (fun hc h => ?_) <;> (try simp only [nrm] at hc))
   | refine itT ?_ (by first | assumption | omega | (simp only [nrm]; first | done | assumption | omega) | (simp only [nln] at hc ⊢; omega))
   | refine itF ?_ (by first | assumption | omega | (simp only [nrm]; first | done | assumption | omega) | (simp only [nln] at hc ⊢; omega))
   | (refine bind_by h (fun t ht h => ?_); refine (impl_BoxesOverlap.ap_of (impl_BoxesOverlap.go ht _)).trans ?_; (try dsimp only at h ⊢))
   | (simp only [decide_not, Bool.decide_and, decide_true, Bool.and_true, Bool.not_and, beqI, Int.toNat_natCast, List.take_length] at h ⊢)
   | (exfalso; omega))
def impl_FindFeature.toH (t : Int) : HL eΓ [.i .i64] := (t, ())
def impl_FindFeature.run (k : Nat) (h : HL eΓ [.l 29 (.st .s29), .i .i64]) : Option (HL eΓ [.i .i64]) := (impl_FindFeature.f (h.1 : List S29) (h.2.1 : Int)).map impl_FindFeature.toH
def impl_FindFeature.spec : Spc env := ⟨94, [.l 29 (.st .s29), .i .i64], [.i .i64], impl_FindFeature.run⟩
def impl_FindFeature.ap {R : Type} (k : Nat) (h0 : List S29) (h1 : Int) (K : Int → Option R) : Option R := (impl_FindFeature.run k (h0, h1, ())).bind fun r => K (r.1 : Int)
theorem impl_FindFeature.ap_of {R : Type} {k : Nat} {h0 : List S29} {h1 : Int} {r0 : Int} {K : Int → Option R} (h : impl_FindFeature.run k (h0, h1, ()) = some (r0, ())) : impl_FindFeature.ap k h0 h1 K = K r0 := by unfold impl_FindFeature.ap; rw [h]; rfl
theorem impl_FindFeature.go {l0 : List S29} {a1 : Int} {t} (h : impl_FindFeature.f l0 a1 = some t) (K : Nat) : impl_FindFeature.run K (l0, a1, ()) = some (impl_FindFeature.toH t) := by
  show Option.map _ (impl_FindFeature.f l0 a1) = _
  rw [h]; rfl
theorem impl_FindFeature.snd : Snd env impl_FindFeature.spec := ⟨⟨Try.f94, by kernel_rfl, by kernel_rfl, by kernel_rfl⟩, fun k h r he w us hA => by
  obtain ⟨t, ht, rfl⟩ := Option.map_eq_some_iff.1 (show (impl_FindFeature.f (h.1 : List S29) (h.2.1 : Int)).map impl_FindFeature.toH = some r from he)
  match us, hA with
  | [u0, u1], ⟨q0, q1, _⟩ =>
  obtain ⟨A0, c0, e0, l0, g0⟩ := q0
  obtain rfl := List.singleton_inj.1 e0
  obtain rfl := List.singleton_inj.1 (show [u1] = [Value.int .i64 (h.2.1 : Int)] from q1)
  refine (impl_FindFeature.calls (w := w) (h := ht) (hr0 := g0) (hc0 := l0)).mono ?_
  rintro e w' ⟨he, hw⟩
  exact ⟨_, he, hw, [.int .i64 t], [fun _ => False], rfl, ⟨rfl, trivial⟩, by simp [DJ]⟩⟩
def impl_IsChart.Fs : List (Spc env) := [impl_IsSource.spec, impl_AreApart.spec, impl_FindFeature.spec]
def impl_IsChart.fin : St eΓ → Option (HL eΓ [.b]) := finR env Try.f38.results.toList [.b]
def impl_IsChart.cut : Nat → Option (List (Lv SC)) := lk [(4, [⟨1, none, false⟩, ⟨17, none, false⟩, ⟨18, none, false⟩, ⟨19, none, false⟩])]
def impl_IsChart.ret (r0 : Bool) : Option (HL eΓ [.b]) := some (r0, ())
def impl_IsChart.p4 (k : Nat) (x18 : Int) (x19 : Int) (x17 : List S100) (b2 : List S29) : Option (HL eΓ [.b]) := evM env impl_IsChart.Fs Try.f38.ntmps impl_IsChart.fin impl_IsChart.cut k [.code (sub_ [1, 1, 0, 1, 0, 0, 0] (bodyOf Try.f38)), .code (sub_ [1, 1, 0, 1, 0, 0, 1] (bodyOf Try.f38)), .lp (sub_ [1, 1, 0, 1, 0, 0] (bodyOf Try.f38)), .blk 0, .code (sub_ [1, 1, 1] (bodyOf Try.f38))] (mkSt [(1, .c (.ptr 0 0)), (17, .c (.sl 1)), (18, .c (.v (.int .i64 x18))), (19, .c (.v (.int .i64 x19)))] [.box 53 [.sl 2, .sl 1], .row .ro 100 (.st .s100) x17, .row .ro 29 (.st .s29) b2])
theorem impl_IsChart.e4 (k : Nat) (x18 : Int) (x19 : Int) (x17 : List S100) (b2 : List S29) : impl_IsChart.p4 (k + 1) x18 x19 x17 b2 = if x19 < x18 then (if 0 ≤ x19 then (if x19 < (x17.length : Int) then (impl_FindFeature.ap k b2 ((rd_T100 x17 x19).f0) fun r1 => if r1 < 0 then (impl_IsChart.ret false) else (if 0 ≤ r1 then (if r1 < (b2.length : Int) then (if ¬ ((rd_T29 b2 r1).f3).toList = ((rd_T100 x17 x19).f1).toList then (impl_IsChart.ret false) else (impl_IsChart.p4 k x18 (wrap64 (x19 + 1)) x17 b2)) else none) else none)) else none) else none) else (impl_IsChart.ret true) := by kernel_rfl
def impl_IsChart.run (k : Nat) (h : HL eΓ [.st .s53]) : Option (HL eΓ [.b]) := evF env impl_IsChart.Fs Try.f38 impl_IsChart.cut [.st .s53] [.b] k h
theorem impl_IsChart.ef (k : Nat) (h0 : S53) : impl_IsChart.run k (h0, ()) = impl_IsSource.ap k h0.f0 fun r1 => if (!r1) = true then (impl_IsChart.ret false) else (impl_AreApart.ap k h0.f1 fun r2 => if (!r2) = true then (impl_IsChart.ret false) else (impl_IsChart.p4 k (h0.f1.length : Int) 0 h0.f1 h0.f0)) := by kernel_rfl
def impl_IsChart.toH (t : Bool) : HL eΓ [.b] := (t, ())
def impl_IsChart.spec : Spc env := ⟨38, [.st .s53], [.b], impl_IsChart.run⟩
theorem impl_IsChart.snd : Snd env impl_IsChart.spec := evF_snd env_ok (sndC impl_IsSource.snd (sndC impl_AreApart.snd (sndC impl_FindFeature.snd (sndN)))) (by kernel_rfl) (by kernel_rfl) (by kernel_rfl)
attribute [local irreducible] impl_IsChart.run
theorem impl_IsChart.rt (a0 : Bool) : impl_IsChart.ret a0 = some (impl_IsChart.toH (a0)) := rfl
theorem impl_IsChart.br (n : Nat) : (∀ K, n ≤ K → ∀ (x18 : Int) (x19 : Int) (x17 : List S100) (b2 : List S29) t, impl_IsChart.l0 n x17 x18 x19 b2 x17 = some t → impl_IsChart.p4 K x18 x19 x17 b2 = some (impl_IsChart.toH t)) := by
  induction n using Nat.strongRecOn with
  | _ n ih =>
  intro K hK x18 x19 x17 b2 t h
  all_goals (rcases n with _ | k)
  all_goals (try (exact nos h))
  all_goals (obtain ⟨K, rfl⟩ : ∃ q, K = q + 1 := ⟨K - 1, by omega⟩)
  all_goals (first | rw [impl_IsChart.e4])
  all_goals (simp only [impl_IsChart.l0] at h)
  repeat' (with_reducible first
   | exact nos h
   | (cases some_inj h; exact impl_IsChart.rt _)
   | exact (ih _ (by omega)) _ (by omega) _ _ _ _ _ h
   | ((have q : impl_IsChart.j0 k _ _ _ = some _ := h; clear q); rcases k with _ | k <;> simp only [impl_IsChart.j0, reduceCtorEq] at h)
   | (simp only [Option.bind_some] at h)
   | (refine ite_by h (fun hc h => ?_) (fun hc h => ?_) <;> (try simp only [nrm] at hc))
   | refine itT ?_ (by first | assumption | omega | (simp only [nrm]; first | done | assumption | omega) | (simp only [nln] at hc ⊢; omega))
   | refine itF ?_ (by first | assumption | omega | (simp only [nrm]; first | done | assumption | omega) | (simp only [nln] at hc ⊢; omega))
   | (refine bind_by h (fun t ht h => ?_); (first | refine (impl_IsSource.ap_of (impl_IsSource.go ht _ (by omega))).trans ?_ | refine (impl_AreApart.ap_of (impl_AreApart.go ht _ (by omega))).trans ?_ | refine (impl_FindFeature.ap_of (impl_FindFeature.go ht _)).trans ?_); (try dsimp only at h ⊢))
   | (simp only [decide_not, Bool.decide_and, decide_true, Bool.and_true, Bool.not_and, beqI, Int.toNat_natCast, List.take_length] at h ⊢)
   | (exfalso; omega))
theorem impl_IsChart.go {k : Nat} {l0_0 : List S29} {l0_1 : List S100} {t} (h : impl_IsChart.f k l0_0 l0_1 = some t) (K : Nat) (hK : k ≤ K) : impl_IsChart.run K ((⟨l0_0, l0_1⟩ : S53), ()) = some (impl_IsChart.toH t) := by
  rw [impl_IsChart.ef]
  (try dsimp only)
  unfold impl_IsChart.f at h
  repeat' (with_reducible first
   | exact nos h
   | (cases some_inj h; exact impl_IsChart.rt _)
   | exact (impl_IsChart.br _) _ (by omega) _ _ _ _ _ h
   | ((have q : impl_IsChart.j0 k _ _ _ = some _ := h; clear q); rcases k with _ | k <;> simp only [impl_IsChart.j0, reduceCtorEq] at h)
   | (simp only [Option.bind_some] at h)
   | (refine ite_by h (fun hc h => ?_) (fun hc h => ?_) <;> (try simp only [nrm] at hc))
   | refine itT ?_ (by first | assumption | omega | (simp only [nrm]; first | done | assumption | omega) | (simp only [nln] at hc ⊢; omega))
   | refine itF ?_ (by first | assumption | omega | (simp only [nrm]; first | done | assumption | omega) | (simp only [nln] at hc ⊢; omega))
   | (refine bind_by h (fun t ht h => ?_); (first | refine (impl_IsSource.ap_of (impl_IsSource.go ht _ (by omega))).trans ?_ | refine (impl_AreApart.ap_of (impl_AreApart.go ht _ (by omega))).trans ?_ | refine (impl_FindFeature.ap_of (impl_FindFeature.go ht _)).trans ?_); (try dsimp only at h ⊢))
   | (simp only [decide_not, Bool.decide_and, decide_true, Bool.and_true, Bool.not_and, beqI, Int.toNat_natCast, List.take_length] at h ⊢)
   | (exfalso; omega))
theorem impl_IsChart.calls (k : Nat) (A0_0 : Option Addr) (c0_0 : Nat) (l0_0 : List (S29)) (A0_1 : Option Addr) (c0_1 : Nat) (l0_1 : List (S100)) (r : Bool) (w : World) (hr0_0 : Kd.C k29 w A0_0 l0_0.length l0_0) (hc0_0 : l0_0.length ≤ c0_0) (hr0_1 : Kd.C k100 w A0_1 l0_1.length l0_1) (hc0_1 : l0_1.length ≤ c0_1) (h : impl_IsChart.f k l0_0 l0_1 = some r) :
  Calls Try.prog 38 #[.agg #[.slice A0_0 l0_0.length c0_0, .slice A0_1 l0_1.length c0_1]] w fun e w' => e = .returned (.bool r) ∧ Below w.heap.size w w' := by
  refine (impl_IsChart.snd.calls _ _ _ (impl_IsChart.go h k (Nat.le_refl k)) w [.agg #[.slice A0_0 l0_0.length c0_0, .slice A0_1 l0_1.length c0_1]] ⟨⟨_, rfl, (H53.K _ _ _).2 ⟨⟨_, _, rfl, hc0_0, hr0_0⟩, ⟨_, _, rfl, hc0_1, hr0_1⟩, trivial⟩⟩, trivial⟩).mono ?_
  rintro e w' ⟨v, rfl, hB, vs, oks, rfl, hR, _⟩
  obtain ⟨x0_, vs, o0_, oks, rfl, rfl, m0_, hR⟩ := rmsC hR
  obtain rfl := rmsN hR
  obtain rfl := List.singleton_inj.1 (show [x0_] = [Value.bool r] from m0_)
  exact ⟨rfl, hB⟩
def laws_eqPoint.Fs : List (Spc env) := []
def laws_eqPoint.cut : Nat → Option (List (Lv SC)) := lk []
def laws_eqPoint.ret (r0 : Bool) : Option (HL eΓ [.b]) := some (r0, ())
def laws_eqPoint.run (k : Nat) (h : HL eΓ [.st .s82, .st .s82]) : Option (HL eΓ [.b]) := evF env laws_eqPoint.Fs Try.f115 laws_eqPoint.cut [.st .s82, .st .s82] [.b] k h
theorem laws_eqPoint.ef (k : Nat) (h0 : S82) (h1 : S82) : laws_eqPoint.run k (h0, h1, ()) = if ¬ h0.f0 = h1.f0 then (laws_eqPoint.ret false) else (if ¬ h0.f1 = h1.f1 then (laws_eqPoint.ret false) else (laws_eqPoint.ret true)) := by kernel_rfl
def laws_eqPoint.toH (t : Bool) : HL eΓ [.b] := (t, ())
def laws_eqPoint.spec : Spc env := ⟨115, [.st .s82, .st .s82], [.b], laws_eqPoint.run⟩
def laws_eqPoint.ap {R : Type} (k : Nat) (h0 : S82) (h1 : S82) (K : Bool → Option R) : Option R := (laws_eqPoint.run k (h0, h1, ())).bind fun r => K (r.1 : Bool)
theorem laws_eqPoint.ap_of {R : Type} {k : Nat} {h0 : S82} {h1 : S82} {r0 : Bool} {K : Bool → Option R} (h : laws_eqPoint.run k (h0, h1, ()) = some (r0, ())) : laws_eqPoint.ap k h0 h1 K = K r0 := by unfold laws_eqPoint.ap; rw [h]; rfl
theorem laws_eqPoint.snd : Snd env laws_eqPoint.spec := evF_snd env_ok (sndN) (by kernel_rfl) (by kernel_rfl) (by kernel_rfl)
attribute [local irreducible] laws_eqPoint.run
theorem laws_eqPoint.rt (a0 : Bool) : laws_eqPoint.ret a0 = some (laws_eqPoint.toH (a0)) := rfl
theorem laws_eqPoint.go {a0_0 : Int} {a0_1 : Int} {a1_0 : Int} {a1_1 : Int} {t} (h : laws_eqPoint.f a0_0 a0_1 a1_0 a1_1 = some t) (K : Nat) : laws_eqPoint.run K ((⟨a0_0, a0_1⟩ : S82), (⟨a1_0, a1_1⟩ : S82), ()) = some (laws_eqPoint.toH t) := by
  rw [laws_eqPoint.ef]
  (try dsimp only)
  unfold laws_eqPoint.f at h
  repeat' (with_reducible first
   | exact nos h
   | (cases some_inj h; exact laws_eqPoint.rt _)
   | (simp only [Option.bind_some] at h)
   | (refine ite_by h (fun hc h => ?_) (fun hc h => ?_) <;> (try simp only [nrm] at hc))
   | refine itT ?_ (by first | assumption | omega | (simp only [nrm]; first | done | assumption | omega) | (simp only [nln] at hc ⊢; omega))
   | refine itF ?_ (by first | assumption | omega | (simp only [nrm]; first | done | assumption | omega) | (simp only [nln] at hc ⊢; omega))
   | (simp only [decide_not, Bool.decide_and, decide_true, Bool.and_true, Bool.not_and, beqI, Int.toNat_natCast, List.take_length] at h ⊢)
   | (exfalso; omega))
def laws_eqPointS.Fs : List (Spc env) := [laws_eqPoint.spec]
def laws_eqPointS.fin : St eΓ → Option (HL eΓ [.b]) := finR env Try.f67.results.toList [.b]
def laws_eqPointS.cut : Nat → Option (List (Lv SC)) := lk [(4, [⟨0, none, false⟩, ⟨1, none, false⟩, ⟨5, none, false⟩])]
def laws_eqPointS.ret (r0 : Bool) : Option (HL eΓ [.b]) := some (r0, ())
def laws_eqPointS.p4 (k : Nat) (x5 : Int) (x0 : List S82) (x1 : List S82) : Option (HL eΓ [.b]) := evM env laws_eqPointS.Fs Try.f67.ntmps laws_eqPointS.fin laws_eqPointS.cut k [.code (sub_ [1, 1, 0, 1, 0, 0, 0, 0] (bodyOf Try.f67)), .code (sub_ [1, 1, 0, 1, 0, 0, 0, 1] (bodyOf Try.f67)), .code (sub_ [1, 1, 0, 1, 0, 0, 1] (bodyOf Try.f67)), .lp (sub_ [1, 1, 0, 1, 0, 0] (bodyOf Try.f67)), .blk 0, .code (sub_ [1, 1, 1] (bodyOf Try.f67))] (mkSt [(0, .c (.sl 0)), (1, .c (.sl 1)), (5, .c (.v (.int .i64 x5)))] [.row .ro 82 (.st .s82) x0, .row .ro 82 (.st .s82) x1])
theorem laws_eqPointS.e4 (k : Nat) (x5 : Int) (x0 : List S82) (x1 : List S82) : laws_eqPointS.p4 (k + 1) x5 x0 x1 = if x5 < (x0.length : Int) then (if 0 ≤ x5 then (if x5 < (x0.length : Int) then (if 0 ≤ x5 then (if x5 < (x1.length : Int) then (laws_eqPoint.ap k (⟨(rd_T82 x0 x5).f0, (rd_T82 x0 x5).f1⟩ : S82) (⟨(rd_T82 x1 x5).f0, (rd_T82 x1 x5).f1⟩ : S82) fun r1 => if (!r1) = true then (laws_eqPointS.ret false) else (laws_eqPointS.p4 k (wrap64 (x5 + 1)) x0 x1)) else none) else none) else none) else none) else (laws_eqPointS.ret true) := by kernel_rfl
def laws_eqPointS.run (k : Nat) (h : HL eΓ [.l 82 (.st .s82), .l 82 (.st .s82)]) : Option (HL eΓ [.b]) := evF env laws_eqPointS.Fs Try.f67 laws_eqPointS.cut [.l 82 (.st .s82), .l 82 (.st .s82)] [.b] k h
theorem laws_eqPointS.ef (k : Nat) (h0 : List S82) (h1 : List S82) : laws_eqPointS.run k (h0, h1, ()) = if ¬ (h0.length : Int) = (h1.length : Int) then (laws_eqPointS.ret false) else (laws_eqPointS.p4 k 0 h0 h1) := by kernel_rfl
def laws_eqPointS.toH (t : Bool) : HL eΓ [.b] := (t, ())
def laws_eqPointS.spec : Spc env := ⟨67, [.l 82 (.st .s82), .l 82 (.st .s82)], [.b], laws_eqPointS.run⟩
def laws_eqPointS.ap {R : Type} (k : Nat) (h0 : List S82) (h1 : List S82) (K : Bool → Option R) : Option R := (laws_eqPointS.run k (h0, h1, ())).bind fun r => K (r.1 : Bool)
theorem laws_eqPointS.ap_of {R : Type} {k : Nat} {h0 : List S82} {h1 : List S82} {r0 : Bool} {K : Bool → Option R} (h : laws_eqPointS.run k (h0, h1, ()) = some (r0, ())) : laws_eqPointS.ap k h0 h1 K = K r0 := by unfold laws_eqPointS.ap; rw [h]; rfl
theorem laws_eqPointS.snd : Snd env laws_eqPointS.spec := evF_snd env_ok (sndC laws_eqPoint.snd (sndN)) (by kernel_rfl) (by kernel_rfl) (by kernel_rfl)
attribute [local irreducible] laws_eqPointS.run
theorem laws_eqPointS.rt (a0 : Bool) : laws_eqPointS.ret a0 = some (laws_eqPointS.toH (a0)) := rfl
theorem laws_eqPointS.br (n : Nat) : (∀ K, n ≤ K → ∀ (x5 : Int) (x0 : List S82) (x1 : List S82) t, laws_eqPointS.l0 n x0 x1 x5 = some t → laws_eqPointS.p4 K x5 x0 x1 = some (laws_eqPointS.toH t)) := by
  induction n using Nat.strongRecOn with
  | _ n ih =>
  intro K hK x5 x0 x1 t h
  all_goals (rcases n with _ | k)
  all_goals (try (exact nos h))
  all_goals (obtain ⟨K, rfl⟩ : ∃ q, K = q + 1 := ⟨K - 1, by omega⟩)
  all_goals (first | rw [laws_eqPointS.e4])
  all_goals (simp only [laws_eqPointS.l0] at h)
  repeat' (with_reducible first
   | exact nos h
   | (cases some_inj h; exact laws_eqPointS.rt _)
   | exact (ih _ (by omega)) _ (by omega) _ _ _ _ h
   | (simp only [Option.bind_some] at h)
   | (refine ite_by h (fun hc h => ?_) (fun hc h => ?_) <;> (try simp only [nrm] at hc))
   | refine itT ?_ (by first | assumption | omega | (simp only [nrm]; first | done | assumption | omega) | (simp only [nln] at hc ⊢; omega))
   | refine itF ?_ (by first | assumption | omega | (simp only [nrm]; first | done | assumption | omega) | (simp only [nln] at hc ⊢; omega))
   | (refine bind_by h (fun t ht h => ?_); refine (laws_eqPoint.ap_of (laws_eqPoint.go ht _)).trans ?_; (try dsimp only at h ⊢))
   | (simp only [decide_not, Bool.decide_and, decide_true, Bool.and_true, Bool.not_and, beqI, Int.toNat_natCast, List.take_length] at h ⊢)
   | (exfalso; omega))
theorem laws_eqPointS.go {k : Nat} {l0 : List S82} {l1 : List S82} {t} (h : laws_eqPointS.f k l0 l1 = some t) (K : Nat) (hK : k ≤ K) : laws_eqPointS.run K (l0, l1, ()) = some (laws_eqPointS.toH t) := by
  rw [laws_eqPointS.ef]
  (try dsimp only)
  unfold laws_eqPointS.f at h
  repeat' (with_reducible first
   | exact nos h
   | (cases some_inj h; exact laws_eqPointS.rt _)
   | exact (laws_eqPointS.br _) _ (by omega) _ _ _ _ h
   | (simp only [Option.bind_some] at h)
   | (refine ite_by h (fun hc h => ?_) (fun hc h => ?_) <;> (try simp only [nrm] at hc))
   | refine itT ?_ (by first | assumption | omega | (simp only [nrm]; first | done | assumption | omega) | (simp only [nln] at hc ⊢; omega))
   | refine itF ?_ (by first | assumption | omega | (simp only [nrm]; first | done | assumption | omega) | (simp only [nln] at hc ⊢; omega))
   | (refine bind_by h (fun t ht h => ?_); refine (laws_eqPoint.ap_of (laws_eqPoint.go ht _)).trans ?_; (try dsimp only at h ⊢))
   | (simp only [decide_not, Bool.decide_and, decide_true, Bool.and_true, Bool.not_and, beqI, Int.toNat_natCast, List.take_length] at h ⊢)
   | (exfalso; omega))
def laws_eqFeature.Fs : List (Spc env) := [laws_eqPointS.spec]
def laws_eqFeature.cut : Nat → Option (List (Lv SC)) := lk []
def laws_eqFeature.ret (r0 : Bool) : Option (HL eΓ [.b]) := some (r0, ())
def laws_eqFeature.run (k : Nat) (h : HL eΓ [.st .s29, .st .s29]) : Option (HL eΓ [.b]) := evF env laws_eqFeature.Fs Try.f19 laws_eqFeature.cut [.st .s29, .st .s29] [.b] k h
theorem laws_eqFeature.ef (k : Nat) (h0 : S29) (h1 : S29) : laws_eqFeature.run k (h0, h1, ()) = if ¬ h0.f0 = h1.f0 then (laws_eqFeature.ret false) else (if ¬ h0.f1 = h1.f1 then (laws_eqFeature.ret false) else (if ¬ h0.f2 = h1.f2 then (laws_eqFeature.ret false) else (if ¬ h0.f3.toList = h1.f3.toList then (laws_eqFeature.ret false) else (laws_eqPointS.ap k h0.f4 h1.f4 fun r1 => if (!r1) = true then (laws_eqFeature.ret false) else (laws_eqFeature.ret true))))) := by kernel_rfl
def laws_eqFeature.toH (t : Bool) : HL eΓ [.b] := (t, ())
def laws_eqFeature.spec : Spc env := ⟨19, [.st .s29, .st .s29], [.b], laws_eqFeature.run⟩
def laws_eqFeature.ap {R : Type} (k : Nat) (h0 : S29) (h1 : S29) (K : Bool → Option R) : Option R := (laws_eqFeature.run k (h0, h1, ())).bind fun r => K (r.1 : Bool)
theorem laws_eqFeature.ap_of {R : Type} {k : Nat} {h0 : S29} {h1 : S29} {r0 : Bool} {K : Bool → Option R} (h : laws_eqFeature.run k (h0, h1, ()) = some (r0, ())) : laws_eqFeature.ap k h0 h1 K = K r0 := by unfold laws_eqFeature.ap; rw [h]; rfl
theorem laws_eqFeature.snd : Snd env laws_eqFeature.spec := evF_snd env_ok (sndC laws_eqPointS.snd (sndN)) (by kernel_rfl) (by kernel_rfl) (by kernel_rfl)
attribute [local irreducible] laws_eqFeature.run
theorem laws_eqFeature.rt (a0 : Bool) : laws_eqFeature.ret a0 = some (laws_eqFeature.toH (a0)) := rfl
theorem laws_eqFeature.go {k : Nat} {a0_0 : Int} {a0_1 : Int} {a0_2 : Int} {a0_3 : ByteArray} {l0_4 : List S82} {a1_0 : Int} {a1_1 : Int} {a1_2 : Int} {a1_3 : ByteArray} {l1_4 : List S82} {t} (h : laws_eqFeature.f k a0_0 a0_1 a0_2 a0_3 l0_4 a1_0 a1_1 a1_2 a1_3 l1_4 = some t) (K : Nat) (hK : k ≤ K) : laws_eqFeature.run K ((⟨a0_0, a0_1, a0_2, a0_3, l0_4⟩ : S29), (⟨a1_0, a1_1, a1_2, a1_3, l1_4⟩ : S29), ()) = some (laws_eqFeature.toH t) := by
  rw [laws_eqFeature.ef]
  (try dsimp only)
  unfold laws_eqFeature.f at h
  repeat' (with_reducible first
   | exact nos h
   | (cases some_inj h; exact laws_eqFeature.rt _)
   | (simp only [Option.bind_some] at h)
   | (refine ite_by h (fun hc h => ?_) (fun hc h => ?_) <;> (try simp only [nrm] at hc))
   | refine itT ?_ (by first | assumption | omega | (simp only [nrm]; first | done | assumption | omega) | (simp only [nln] at hc ⊢; omega))
   | refine itF ?_ (by first | assumption | omega | (simp only [nrm]; first | done | assumption | omega) | (simp only [nln] at hc ⊢; omega))
   | (refine bind_by h (fun t ht h => ?_); refine (laws_eqPointS.ap_of (laws_eqPointS.go ht _ (by omega))).trans ?_; (try dsimp only at h ⊢))
   | (simp only [decide_not, Bool.decide_and, decide_true, Bool.and_true, Bool.not_and, beqI, Int.toNat_natCast, List.take_length] at h ⊢)
   | (exfalso; omega))
def laws_eqFeatureS.Fs : List (Spc env) := [laws_eqFeature.spec]
def laws_eqFeatureS.fin : St eΓ → Option (HL eΓ [.b]) := finR env Try.f31.results.toList [.b]
def laws_eqFeatureS.cut : Nat → Option (List (Lv SC)) := lk [(4, [⟨0, none, false⟩, ⟨1, none, false⟩, ⟨5, none, false⟩])]
def laws_eqFeatureS.ret (r0 : Bool) : Option (HL eΓ [.b]) := some (r0, ())
def laws_eqFeatureS.p4 (k : Nat) (x5 : Int) (x0 : List S29) (x1 : List S29) : Option (HL eΓ [.b]) := evM env laws_eqFeatureS.Fs Try.f31.ntmps laws_eqFeatureS.fin laws_eqFeatureS.cut k [.code (sub_ [1, 1, 0, 1, 0, 0, 0, 0] (bodyOf Try.f31)), .code (sub_ [1, 1, 0, 1, 0, 0, 0, 1] (bodyOf Try.f31)), .code (sub_ [1, 1, 0, 1, 0, 0, 1] (bodyOf Try.f31)), .lp (sub_ [1, 1, 0, 1, 0, 0] (bodyOf Try.f31)), .blk 0, .code (sub_ [1, 1, 1] (bodyOf Try.f31))] (mkSt [(0, .c (.sl 0)), (1, .c (.sl 1)), (5, .c (.v (.int .i64 x5)))] [.row .ro 29 (.st .s29) x0, .row .ro 29 (.st .s29) x1])
theorem laws_eqFeatureS.e4 (k : Nat) (x5 : Int) (x0 : List S29) (x1 : List S29) : laws_eqFeatureS.p4 (k + 1) x5 x0 x1 = if x5 < (x0.length : Int) then (if 0 ≤ x5 then (if x5 < (x0.length : Int) then (if 0 ≤ x5 then (if x5 < (x1.length : Int) then (laws_eqFeature.ap k (⟨(rd_T29 x0 x5).f0, (rd_T29 x0 x5).f1, (rd_T29 x0 x5).f2, (rd_T29 x0 x5).f3, (rd_T29 x0 x5).f4⟩ : S29) (⟨(rd_T29 x1 x5).f0, (rd_T29 x1 x5).f1, (rd_T29 x1 x5).f2, (rd_T29 x1 x5).f3, (rd_T29 x1 x5).f4⟩ : S29) fun r1 => if (!r1) = true then (laws_eqFeatureS.ret false) else (laws_eqFeatureS.p4 k (wrap64 (x5 + 1)) x0 x1)) else none) else none) else none) else none) else (laws_eqFeatureS.ret true) := by kernel_rfl
def laws_eqFeatureS.run (k : Nat) (h : HL eΓ [.l 29 (.st .s29), .l 29 (.st .s29)]) : Option (HL eΓ [.b]) := evF env laws_eqFeatureS.Fs Try.f31 laws_eqFeatureS.cut [.l 29 (.st .s29), .l 29 (.st .s29)] [.b] k h
theorem laws_eqFeatureS.ef (k : Nat) (h0 : List S29) (h1 : List S29) : laws_eqFeatureS.run k (h0, h1, ()) = if ¬ (h0.length : Int) = (h1.length : Int) then (laws_eqFeatureS.ret false) else (laws_eqFeatureS.p4 k 0 h0 h1) := by kernel_rfl
def laws_eqFeatureS.toH (t : Bool) : HL eΓ [.b] := (t, ())
def laws_eqFeatureS.spec : Spc env := ⟨31, [.l 29 (.st .s29), .l 29 (.st .s29)], [.b], laws_eqFeatureS.run⟩
def laws_eqFeatureS.ap {R : Type} (k : Nat) (h0 : List S29) (h1 : List S29) (K : Bool → Option R) : Option R := (laws_eqFeatureS.run k (h0, h1, ())).bind fun r => K (r.1 : Bool)
theorem laws_eqFeatureS.ap_of {R : Type} {k : Nat} {h0 : List S29} {h1 : List S29} {r0 : Bool} {K : Bool → Option R} (h : laws_eqFeatureS.run k (h0, h1, ()) = some (r0, ())) : laws_eqFeatureS.ap k h0 h1 K = K r0 := by unfold laws_eqFeatureS.ap; rw [h]; rfl
theorem laws_eqFeatureS.snd : Snd env laws_eqFeatureS.spec := evF_snd env_ok (sndC laws_eqFeature.snd (sndN)) (by kernel_rfl) (by kernel_rfl) (by kernel_rfl)
attribute [local irreducible] laws_eqFeatureS.run
theorem laws_eqFeatureS.rt (a0 : Bool) : laws_eqFeatureS.ret a0 = some (laws_eqFeatureS.toH (a0)) := rfl
theorem laws_eqFeatureS.br (n : Nat) : (∀ K, n ≤ K → ∀ (x5 : Int) (x0 : List S29) (x1 : List S29) t, laws_eqFeatureS.l0 n x0 x1 x5 = some t → laws_eqFeatureS.p4 K x5 x0 x1 = some (laws_eqFeatureS.toH t)) := by
  induction n using Nat.strongRecOn with
  | _ n ih =>
  intro K hK x5 x0 x1 t h
  all_goals (rcases n with _ | k)
  all_goals (try (exact nos h))
  all_goals (obtain ⟨K, rfl⟩ : ∃ q, K = q + 1 := ⟨K - 1, by omega⟩)
  all_goals (first | rw [laws_eqFeatureS.e4])
  all_goals (simp only [laws_eqFeatureS.l0] at h)
  repeat' (with_reducible first
   | exact nos h
   | (cases some_inj h; exact laws_eqFeatureS.rt _)
   | exact (ih _ (by omega)) _ (by omega) _ _ _ _ h
   | (simp only [Option.bind_some] at h)
   | (refine ite_by h (fun hc h => ?_) (fun hc h => ?_) <;> (try simp only [nrm] at hc))
   | refine itT ?_ (by first | assumption | omega | (simp only [nrm]; first | done | assumption | omega) | (simp only [nln] at hc ⊢; omega))
   | refine itF ?_ (by first | assumption | omega | (simp only [nrm]; first | done | assumption | omega) | (simp only [nln] at hc ⊢; omega))
   | (refine bind_by h (fun t ht h => ?_); refine (laws_eqFeature.ap_of (laws_eqFeature.go ht _ (by omega))).trans ?_; (try dsimp only at h ⊢))
   | (simp only [decide_not, Bool.decide_and, decide_true, Bool.and_true, Bool.not_and, beqI, Int.toNat_natCast, List.take_length] at h ⊢)
   | (exfalso; omega))
theorem laws_eqFeatureS.go {k : Nat} {l0 : List S29} {l1 : List S29} {t} (h : laws_eqFeatureS.f k l0 l1 = some t) (K : Nat) (hK : k ≤ K) : laws_eqFeatureS.run K (l0, l1, ()) = some (laws_eqFeatureS.toH t) := by
  rw [laws_eqFeatureS.ef]
  (try dsimp only)
  unfold laws_eqFeatureS.f at h
  repeat' (with_reducible first
   | exact nos h
   | (cases some_inj h; exact laws_eqFeatureS.rt _)
   | exact (laws_eqFeatureS.br _) _ (by omega) _ _ _ _ h
   | (simp only [Option.bind_some] at h)
   | (refine ite_by h (fun hc h => ?_) (fun hc h => ?_) <;> (try simp only [nrm] at hc))
   | refine itT ?_ (by first | assumption | omega | (simp only [nrm]; first | done | assumption | omega) | (simp only [nln] at hc ⊢; omega))
   | refine itF ?_ (by first | assumption | omega | (simp only [nrm]; first | done | assumption | omega) | (simp only [nln] at hc ⊢; omega))
   | (refine bind_by h (fun t ht h => ?_); refine (laws_eqFeature.ap_of (laws_eqFeature.go ht _ (by omega))).trans ?_; (try dsimp only at h ⊢))
   | (simp only [decide_not, Bool.decide_and, decide_true, Bool.and_true, Bool.not_and, beqI, Int.toNat_natCast, List.take_length] at h ⊢)
   | (exfalso; omega))
def laws_eqBox.Fs : List (Spc env) := [laws_eqPoint.spec]
def laws_eqBox.cut : Nat → Option (List (Lv SC)) := lk []
def laws_eqBox.ret (r0 : Bool) : Option (HL eΓ [.b]) := some (r0, ())
def laws_eqBox.run (k : Nat) (h : HL eΓ [.st .s98, .st .s98]) : Option (HL eΓ [.b]) := evF env laws_eqBox.Fs Try.f161 laws_eqBox.cut [.st .s98, .st .s98] [.b] k h
theorem laws_eqBox.ef (k : Nat) (h0 : S98) (h1 : S98) : laws_eqBox.run k (h0, h1, ()) = laws_eqPoint.ap k (⟨h0.f0.f0, h0.f0.f1⟩ : S82) (⟨h1.f0.f0, h1.f0.f1⟩ : S82) fun r1 => if (!r1) = true then (laws_eqBox.ret false) else (laws_eqPoint.ap k (⟨h0.f1.f0, h0.f1.f1⟩ : S82) (⟨h1.f1.f0, h1.f1.f1⟩ : S82) fun r2 => if (!r2) = true then (laws_eqBox.ret false) else (laws_eqBox.ret true)) := by kernel_rfl
def laws_eqBox.toH (t : Bool) : HL eΓ [.b] := (t, ())
def laws_eqBox.spec : Spc env := ⟨161, [.st .s98, .st .s98], [.b], laws_eqBox.run⟩
def laws_eqBox.ap {R : Type} (k : Nat) (h0 : S98) (h1 : S98) (K : Bool → Option R) : Option R := (laws_eqBox.run k (h0, h1, ())).bind fun r => K (r.1 : Bool)
theorem laws_eqBox.ap_of {R : Type} {k : Nat} {h0 : S98} {h1 : S98} {r0 : Bool} {K : Bool → Option R} (h : laws_eqBox.run k (h0, h1, ()) = some (r0, ())) : laws_eqBox.ap k h0 h1 K = K r0 := by unfold laws_eqBox.ap; rw [h]; rfl
theorem laws_eqBox.snd : Snd env laws_eqBox.spec := evF_snd env_ok (sndC laws_eqPoint.snd (sndN)) (by kernel_rfl) (by kernel_rfl) (by kernel_rfl)
attribute [local irreducible] laws_eqBox.run
theorem laws_eqBox.rt (a0 : Bool) : laws_eqBox.ret a0 = some (laws_eqBox.toH (a0)) := rfl
theorem laws_eqBox.go {a0_0 : Int} {a0_1 : Int} {a0_2 : Int} {a0_3 : Int} {a1_0 : Int} {a1_1 : Int} {a1_2 : Int} {a1_3 : Int} {t} (h : laws_eqBox.f a0_0 a0_1 a0_2 a0_3 a1_0 a1_1 a1_2 a1_3 = some t) (K : Nat) : laws_eqBox.run K ((⟨(⟨a0_0, a0_1⟩ : S82), (⟨a0_2, a0_3⟩ : S82)⟩ : S98), (⟨(⟨a1_0, a1_1⟩ : S82), (⟨a1_2, a1_3⟩ : S82)⟩ : S98), ()) = some (laws_eqBox.toH t) := by
  rw [laws_eqBox.ef]
  (try dsimp only)
  unfold laws_eqBox.f at h
  repeat' (with_reducible first
   | exact nos h
   | (cases some_inj h; exact laws_eqBox.rt _)
   | (simp only [Option.bind_some] at h)
   | (refine ite_by h (fun hc h => ?_) (fun hc h => ?_) <;> (try simp only [nrm] at hc))
   | refine itT ?_ (by first | assumption | omega | (simp only [nrm]; first | done | assumption | omega) | (simp only [nln] at hc ⊢; omega))
   | refine itF ?_ (by first | assumption | omega | (simp only [nrm]; first | done | assumption | omega) | (simp only [nln] at hc ⊢; omega))
   | (refine bind_by h (fun t ht h => ?_); refine (laws_eqPoint.ap_of (laws_eqPoint.go ht _)).trans ?_; (try dsimp only at h ⊢))
   | (simp only [decide_not, Bool.decide_and, decide_true, Bool.and_true, Bool.not_and, beqI, Int.toNat_natCast, List.take_length] at h ⊢)
   | (exfalso; omega))
def laws_eqLabel.Fs : List (Spc env) := [laws_eqBox.spec]
def laws_eqLabel.cut : Nat → Option (List (Lv SC)) := lk []
def laws_eqLabel.ret (r0 : Bool) : Option (HL eΓ [.b]) := some (r0, ())
def laws_eqLabel.run (k : Nat) (h : HL eΓ [.st .s100, .st .s100]) : Option (HL eΓ [.b]) := evF env laws_eqLabel.Fs Try.f139 laws_eqLabel.cut [.st .s100, .st .s100] [.b] k h
theorem laws_eqLabel.ef (k : Nat) (h0 : S100) (h1 : S100) : laws_eqLabel.run k (h0, h1, ()) = if ¬ h0.f0 = h1.f0 then (laws_eqLabel.ret false) else (if ¬ h0.f1.toList = h1.f1.toList then (laws_eqLabel.ret false) else (laws_eqBox.ap k (⟨(⟨h0.f2.f0.f0, h0.f2.f0.f1⟩ : S82), (⟨h0.f2.f1.f0, h0.f2.f1.f1⟩ : S82)⟩ : S98) (⟨(⟨h1.f2.f0.f0, h1.f2.f0.f1⟩ : S82), (⟨h1.f2.f1.f0, h1.f2.f1.f1⟩ : S82)⟩ : S98) fun r1 => if (!r1) = true then (laws_eqLabel.ret false) else (laws_eqLabel.ret true))) := by kernel_rfl
def laws_eqLabel.toH (t : Bool) : HL eΓ [.b] := (t, ())
def laws_eqLabel.spec : Spc env := ⟨139, [.st .s100, .st .s100], [.b], laws_eqLabel.run⟩
def laws_eqLabel.ap {R : Type} (k : Nat) (h0 : S100) (h1 : S100) (K : Bool → Option R) : Option R := (laws_eqLabel.run k (h0, h1, ())).bind fun r => K (r.1 : Bool)
theorem laws_eqLabel.ap_of {R : Type} {k : Nat} {h0 : S100} {h1 : S100} {r0 : Bool} {K : Bool → Option R} (h : laws_eqLabel.run k (h0, h1, ()) = some (r0, ())) : laws_eqLabel.ap k h0 h1 K = K r0 := by unfold laws_eqLabel.ap; rw [h]; rfl
theorem laws_eqLabel.snd : Snd env laws_eqLabel.spec := evF_snd env_ok (sndC laws_eqBox.snd (sndN)) (by kernel_rfl) (by kernel_rfl) (by kernel_rfl)
attribute [local irreducible] laws_eqLabel.run
theorem laws_eqLabel.rt (a0 : Bool) : laws_eqLabel.ret a0 = some (laws_eqLabel.toH (a0)) := rfl
theorem laws_eqLabel.go {a0_0 : Int} {a0_1 : ByteArray} {a0_2 : Int} {a0_3 : Int} {a0_4 : Int} {a0_5 : Int} {a1_0 : Int} {a1_1 : ByteArray} {a1_2 : Int} {a1_3 : Int} {a1_4 : Int} {a1_5 : Int} {t} (h : laws_eqLabel.f a0_0 a0_1 a0_2 a0_3 a0_4 a0_5 a1_0 a1_1 a1_2 a1_3 a1_4 a1_5 = some t) (K : Nat) : laws_eqLabel.run K ((⟨a0_0, a0_1, (⟨(⟨a0_2, a0_3⟩ : S82), (⟨a0_4, a0_5⟩ : S82)⟩ : S98)⟩ : S100), (⟨a1_0, a1_1, (⟨(⟨a1_2, a1_3⟩ : S82), (⟨a1_4, a1_5⟩ : S82)⟩ : S98)⟩ : S100), ()) = some (laws_eqLabel.toH t) := by
  rw [laws_eqLabel.ef]
  (try dsimp only)
  unfold laws_eqLabel.f at h
  repeat' (with_reducible first
   | exact nos h
   | (cases some_inj h; exact laws_eqLabel.rt _)
   | (simp only [Option.bind_some] at h)
   | (refine ite_by h (fun hc h => ?_) (fun hc h => ?_) <;> (try simp only [nrm] at hc))
   | refine itT ?_ (by first | assumption | omega | (simp only [nrm]; first | done | assumption | omega) | (simp only [nln] at hc ⊢; omega))
   | refine itF ?_ (by first | assumption | omega | (simp only [nrm]; first | done | assumption | omega) | (simp only [nln] at hc ⊢; omega))
   | (refine bind_by h (fun t ht h => ?_); refine (laws_eqBox.ap_of (laws_eqBox.go ht _)).trans ?_; (try dsimp only at h ⊢))
   | (simp only [decide_not, Bool.decide_and, decide_true, Bool.and_true, Bool.not_and, beqI, Int.toNat_natCast, List.take_length] at h ⊢)
   | (exfalso; omega))
def laws_eqLabelS.Fs : List (Spc env) := [laws_eqLabel.spec]
def laws_eqLabelS.fin : St eΓ → Option (HL eΓ [.b]) := finR env Try.f95.results.toList [.b]
def laws_eqLabelS.cut : Nat → Option (List (Lv SC)) := lk [(4, [⟨0, none, false⟩, ⟨1, none, false⟩, ⟨5, none, false⟩])]
def laws_eqLabelS.ret (r0 : Bool) : Option (HL eΓ [.b]) := some (r0, ())
def laws_eqLabelS.p4 (k : Nat) (x5 : Int) (x0 : List S100) (x1 : List S100) : Option (HL eΓ [.b]) := evM env laws_eqLabelS.Fs Try.f95.ntmps laws_eqLabelS.fin laws_eqLabelS.cut k [.code (sub_ [1, 1, 0, 1, 0, 0, 0, 0] (bodyOf Try.f95)), .code (sub_ [1, 1, 0, 1, 0, 0, 0, 1] (bodyOf Try.f95)), .code (sub_ [1, 1, 0, 1, 0, 0, 1] (bodyOf Try.f95)), .lp (sub_ [1, 1, 0, 1, 0, 0] (bodyOf Try.f95)), .blk 0, .code (sub_ [1, 1, 1] (bodyOf Try.f95))] (mkSt [(0, .c (.sl 0)), (1, .c (.sl 1)), (5, .c (.v (.int .i64 x5)))] [.row .ro 100 (.st .s100) x0, .row .ro 100 (.st .s100) x1])
theorem laws_eqLabelS.e4 (k : Nat) (x5 : Int) (x0 : List S100) (x1 : List S100) : laws_eqLabelS.p4 (k + 1) x5 x0 x1 = if x5 < (x0.length : Int) then (if 0 ≤ x5 then (if x5 < (x0.length : Int) then (if 0 ≤ x5 then (if x5 < (x1.length : Int) then (laws_eqLabel.ap k (⟨(rd_T100 x0 x5).f0, (rd_T100 x0 x5).f1, (⟨(⟨(rd_T100 x0 x5).f2.f0.f0, (rd_T100 x0 x5).f2.f0.f1⟩ : S82), (⟨(rd_T100 x0 x5).f2.f1.f0, (rd_T100 x0 x5).f2.f1.f1⟩ : S82)⟩ : S98)⟩ : S100) (⟨(rd_T100 x1 x5).f0, (rd_T100 x1 x5).f1, (⟨(⟨(rd_T100 x1 x5).f2.f0.f0, (rd_T100 x1 x5).f2.f0.f1⟩ : S82), (⟨(rd_T100 x1 x5).f2.f1.f0, (rd_T100 x1 x5).f2.f1.f1⟩ : S82)⟩ : S98)⟩ : S100) fun r1 => if (!r1) = true then (laws_eqLabelS.ret false) else (laws_eqLabelS.p4 k (wrap64 (x5 + 1)) x0 x1)) else none) else none) else none) else none) else (laws_eqLabelS.ret true) := by kernel_rfl
def laws_eqLabelS.run (k : Nat) (h : HL eΓ [.l 100 (.st .s100), .l 100 (.st .s100)]) : Option (HL eΓ [.b]) := evF env laws_eqLabelS.Fs Try.f95 laws_eqLabelS.cut [.l 100 (.st .s100), .l 100 (.st .s100)] [.b] k h
theorem laws_eqLabelS.ef (k : Nat) (h0 : List S100) (h1 : List S100) : laws_eqLabelS.run k (h0, h1, ()) = if ¬ (h0.length : Int) = (h1.length : Int) then (laws_eqLabelS.ret false) else (laws_eqLabelS.p4 k 0 h0 h1) := by kernel_rfl
def laws_eqLabelS.toH (t : Bool) : HL eΓ [.b] := (t, ())
def laws_eqLabelS.spec : Spc env := ⟨95, [.l 100 (.st .s100), .l 100 (.st .s100)], [.b], laws_eqLabelS.run⟩
def laws_eqLabelS.ap {R : Type} (k : Nat) (h0 : List S100) (h1 : List S100) (K : Bool → Option R) : Option R := (laws_eqLabelS.run k (h0, h1, ())).bind fun r => K (r.1 : Bool)
theorem laws_eqLabelS.ap_of {R : Type} {k : Nat} {h0 : List S100} {h1 : List S100} {r0 : Bool} {K : Bool → Option R} (h : laws_eqLabelS.run k (h0, h1, ()) = some (r0, ())) : laws_eqLabelS.ap k h0 h1 K = K r0 := by unfold laws_eqLabelS.ap; rw [h]; rfl
theorem laws_eqLabelS.snd : Snd env laws_eqLabelS.spec := evF_snd env_ok (sndC laws_eqLabel.snd (sndN)) (by kernel_rfl) (by kernel_rfl) (by kernel_rfl)
attribute [local irreducible] laws_eqLabelS.run
theorem laws_eqLabelS.rt (a0 : Bool) : laws_eqLabelS.ret a0 = some (laws_eqLabelS.toH (a0)) := rfl
theorem laws_eqLabelS.br (n : Nat) : (∀ K, n ≤ K → ∀ (x5 : Int) (x0 : List S100) (x1 : List S100) t, laws_eqLabelS.l0 n x0 x1 x5 = some t → laws_eqLabelS.p4 K x5 x0 x1 = some (laws_eqLabelS.toH t)) := by
  induction n using Nat.strongRecOn with
  | _ n ih =>
  intro K hK x5 x0 x1 t h
  all_goals (rcases n with _ | k)
  all_goals (try (exact nos h))
  all_goals (obtain ⟨K, rfl⟩ : ∃ q, K = q + 1 := ⟨K - 1, by omega⟩)
  all_goals (first | rw [laws_eqLabelS.e4])
  all_goals (simp only [laws_eqLabelS.l0] at h)
  repeat' (with_reducible first
   | exact nos h
   | (cases some_inj h; exact laws_eqLabelS.rt _)
   | exact (ih _ (by omega)) _ (by omega) _ _ _ _ h
   | (simp only [Option.bind_some] at h)
   | (refine ite_by h (fun hc h => ?_) (fun hc h => ?_) <;> (try simp only [nrm] at hc))
   | refine itT ?_ (by first | assumption | omega | (simp only [nrm]; first | done | assumption | omega) | (simp only [nln] at hc ⊢; omega))
   | refine itF ?_ (by first | assumption | omega | (simp only [nrm]; first | done | assumption | omega) | (simp only [nln] at hc ⊢; omega))
   | (refine bind_by h (fun t ht h => ?_); refine (laws_eqLabel.ap_of (laws_eqLabel.go ht _)).trans ?_; (try dsimp only at h ⊢))
   | (simp only [decide_not, Bool.decide_and, decide_true, Bool.and_true, Bool.not_and, beqI, Int.toNat_natCast, List.take_length] at h ⊢)
   | (exfalso; omega))
theorem laws_eqLabelS.go {k : Nat} {l0 : List S100} {l1 : List S100} {t} (h : laws_eqLabelS.f k l0 l1 = some t) (K : Nat) (hK : k ≤ K) : laws_eqLabelS.run K (l0, l1, ()) = some (laws_eqLabelS.toH t) := by
  rw [laws_eqLabelS.ef]
  (try dsimp only)
  unfold laws_eqLabelS.f at h
  repeat' (with_reducible first
   | exact nos h
   | (cases some_inj h; exact laws_eqLabelS.rt _)
   | exact (laws_eqLabelS.br _) _ (by omega) _ _ _ _ h
   | (simp only [Option.bind_some] at h)
   | (refine ite_by h (fun hc h => ?_) (fun hc h => ?_) <;> (try simp only [nrm] at hc))
   | refine itT ?_ (by first | assumption | omega | (simp only [nrm]; first | done | assumption | omega) | (simp only [nln] at hc ⊢; omega))
   | refine itF ?_ (by first | assumption | omega | (simp only [nrm]; first | done | assumption | omega) | (simp only [nln] at hc ⊢; omega))
   | (refine bind_by h (fun t ht h => ?_); refine (laws_eqLabel.ap_of (laws_eqLabel.go ht _)).trans ?_; (try dsimp only at h ⊢))
   | (simp only [decide_not, Bool.decide_and, decide_true, Bool.and_true, Bool.not_and, beqI, Int.toNat_natCast, List.take_length] at h ⊢)
   | (exfalso; omega))
def laws_eqChart.Fs : List (Spc env) := [laws_eqFeatureS.spec, laws_eqLabelS.spec]
def laws_eqChart.cut : Nat → Option (List (Lv SC)) := lk []
def laws_eqChart.ret (r0 : Bool) : Option (HL eΓ [.b]) := some (r0, ())
def laws_eqChart.run (k : Nat) (h : HL eΓ [.st .s53, .st .s53]) : Option (HL eΓ [.b]) := evF env laws_eqChart.Fs Try.f39 laws_eqChart.cut [.st .s53, .st .s53] [.b] k h
theorem laws_eqChart.ef (k : Nat) (h0 : S53) (h1 : S53) : laws_eqChart.run k (h0, h1, ()) = laws_eqFeatureS.ap k h0.f0 h1.f0 fun r1 => if (!r1) = true then (laws_eqChart.ret false) else (laws_eqLabelS.ap k h0.f1 h1.f1 fun r2 => if (!r2) = true then (laws_eqChart.ret false) else (laws_eqChart.ret true)) := by kernel_rfl
def laws_eqChart.toH (t : Bool) : HL eΓ [.b] := (t, ())
def laws_eqChart.spec : Spc env := ⟨39, [.st .s53, .st .s53], [.b], laws_eqChart.run⟩
theorem laws_eqChart.snd : Snd env laws_eqChart.spec := evF_snd env_ok (sndC laws_eqFeatureS.snd (sndC laws_eqLabelS.snd (sndN))) (by kernel_rfl) (by kernel_rfl) (by kernel_rfl)
attribute [local irreducible] laws_eqChart.run
theorem laws_eqChart.rt (a0 : Bool) : laws_eqChart.ret a0 = some (laws_eqChart.toH (a0)) := rfl
theorem laws_eqChart.go {k : Nat} {l0_0 : List S29} {l0_1 : List S100} {l1_0 : List S29} {l1_1 : List S100} {t} (h : laws_eqChart.f k l0_0 l0_1 l1_0 l1_1 = some t) (K : Nat) (hK : k ≤ K) : laws_eqChart.run K ((⟨l0_0, l0_1⟩ : S53), (⟨l1_0, l1_1⟩ : S53), ()) = some (laws_eqChart.toH t) := by
  rw [laws_eqChart.ef]
  (try dsimp only)
  unfold laws_eqChart.f at h
  repeat' (with_reducible first
   | exact nos h
   | (cases some_inj h; exact laws_eqChart.rt _)
   | (simp only [Option.bind_some] at h)
   | (refine ite_by h (fun hc h => ?_) (fun hc h => ?_) <;> (try simp only [nrm] at hc))
   | refine itT ?_ (by first | assumption | omega | (simp only [nrm]; first | done | assumption | omega) | (simp only [nln] at hc ⊢; omega))
   | refine itF ?_ (by first | assumption | omega | (simp only [nrm]; first | done | assumption | omega) | (simp only [nln] at hc ⊢; omega))
   | (refine bind_by h (fun t ht h => ?_); (first | refine (laws_eqFeatureS.ap_of (laws_eqFeatureS.go ht _ (by omega))).trans ?_ | refine (laws_eqLabelS.ap_of (laws_eqLabelS.go ht _ (by omega))).trans ?_); (try dsimp only at h ⊢))
   | (simp only [decide_not, Bool.decide_and, decide_true, Bool.and_true, Bool.not_and, beqI, Int.toNat_natCast, List.take_length] at h ⊢)
   | (exfalso; omega))
theorem laws_eqChart.calls (k : Nat) (A0_0 : Option Addr) (c0_0 : Nat) (l0_0 : List (S29)) (A0_1 : Option Addr) (c0_1 : Nat) (l0_1 : List (S100)) (A1_0 : Option Addr) (c1_0 : Nat) (l1_0 : List (S29)) (A1_1 : Option Addr) (c1_1 : Nat) (l1_1 : List (S100)) (r : Bool) (w : World) (hr0_0 : Kd.C k29 w A0_0 l0_0.length l0_0) (hc0_0 : l0_0.length ≤ c0_0) (hr0_1 : Kd.C k100 w A0_1 l0_1.length l0_1) (hc0_1 : l0_1.length ≤ c0_1) (hr1_0 : Kd.C k29 w A1_0 l1_0.length l1_0) (hc1_0 : l1_0.length ≤ c1_0) (hr1_1 : Kd.C k100 w A1_1 l1_1.length l1_1) (hc1_1 : l1_1.length ≤ c1_1) (h : laws_eqChart.f k l0_0 l0_1 l1_0 l1_1 = some r) :
  Calls Try.prog 39 #[.agg #[.slice A0_0 l0_0.length c0_0, .slice A0_1 l0_1.length c0_1], .agg #[.slice A1_0 l1_0.length c1_0, .slice A1_1 l1_1.length c1_1]] w fun e w' => e = .returned (.bool r) ∧ Below w.heap.size w w' := by
  refine (laws_eqChart.snd.calls _ _ _ (laws_eqChart.go h k (Nat.le_refl k)) w [.agg #[.slice A0_0 l0_0.length c0_0, .slice A0_1 l0_1.length c0_1], .agg #[.slice A1_0 l1_0.length c1_0, .slice A1_1 l1_1.length c1_1]] ⟨⟨_, rfl, (H53.K _ _ _).2 ⟨⟨_, _, rfl, hc0_0, hr0_0⟩, ⟨_, _, rfl, hc0_1, hr0_1⟩, trivial⟩⟩, ⟨_, rfl, (H53.K _ _ _).2 ⟨⟨_, _, rfl, hc1_0, hr1_0⟩, ⟨_, _, rfl, hc1_1, hr1_1⟩, trivial⟩⟩, trivial⟩).mono ?_
  rintro e w' ⟨v, rfl, hB, vs, oks, rfl, hR, _⟩
  obtain ⟨x0_, vs, o0_, oks, rfl, rfl, m0_, hR⟩ := rmsC hR
  obtain rfl := rmsN hR
  obtain rfl := List.singleton_inj.1 (show [x0_] = [Value.bool r] from m0_)
  exact ⟨rfl, hB⟩
end
end Go.Proofs.Ytdfehjfmihokpaa.PFnExactIsChart
