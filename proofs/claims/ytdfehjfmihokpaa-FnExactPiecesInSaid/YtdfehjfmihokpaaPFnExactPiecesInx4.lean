-- Written by a program of this session's (evlaw.py).
import Derived.Test.YtdfehjfmihokpaaPFnExactPiecesInx3
namespace Go.Proofs.Ytdfehjfmihokpaa.PFnExactPiecesIn
open Go.RowKit Go.Proofs.YtdfehjfmihokpaaW.PrintWords Go.Proofs.YtdfehjfmihokpaaW.PrintLast Go.Proofs.YtdfehjfmihokpaaW.PrintMore Go.Proofs.YtdfehjfmihokpaaGeo Go.Proofs.YtdfehjfmihokpaaHand Go.Proofs.YtdfehjfmihokpaaMeet Go.Proofs.YtdfehjfmihokpaaQuiet Go.Proofs.YtdfehjfmihokpaaZ Go.Proofs.YtdfehjfmihokpaaTwo
open Go Go.Proofs.YtdfehjfmihokpaaEv
attribute [local go_sem] max2_int min2_int max_two min_two max_three min_three max_four min_four   -- for this text's walks alone
set_option linter.unusedVariables false
set_option linter.unusedSimpArgs false



set_option linter.unusedSimpArgs false

attribute [local go_sem high] eqA82
set_option linter.unusedVariables false
set_option linter.unusedSimpArgs false
set_option maxRecDepth 100000
noncomputable section
def impl_IsRing.spec : Spc env := ⟨114, [.l 82 (.st .s82)], [.b], impl_IsRing.run⟩
def impl_IsRing.ap {R : Type} (k : Nat) (h0 : List S82) (K : Bool → Option R) : Option R := (impl_IsRing.run k (h0, ())).bind fun r => K (r.1 : Bool)
theorem impl_IsRing.ap_of {R : Type} {k : Nat} {h0 : List S82} {r0 : Bool} {K : Bool → Option R} (h : impl_IsRing.run k (h0, ()) = some (r0, ())) : impl_IsRing.ap k h0 K = K r0 := by unfold impl_IsRing.ap; rw [h]; rfl
theorem impl_IsRing.snd : Snd env impl_IsRing.spec := evF_snd env_ok (sndC impl_around.snd (sndC impl_IsSegment.snd (sndC impl_HowMeet.snd (sndN)))) (by kernel_rfl) (by kernel_rfl) (by kernel_rfl)
attribute [local irreducible] impl_IsRing.run
theorem impl_IsRing.rt (a0 : Bool) : impl_IsRing.ret a0 = some (impl_IsRing.toH (a0)) := rfl
theorem impl_IsRing.br (n : Nat) : (∀ K, n ≤ K → ∀ (x18 : Int) (x19 : Int) (x3 : List S85) t, impl_IsRing.l0 n x3 x18 x19 = some t → impl_IsRing.p5 K x18 x19 x3 = some (impl_IsRing.toH t)) ∧ (∀ K, n ≤ K → ∀ (x4 : Int) (x18 : Int) (x19 : Int) (x28 : Int) (x29 : Int) (x3 : List S85) t, impl_IsRing.l1 n x3 x4 x18 x19 x28 x29 = some t → impl_IsRing.p10 K x4 x18 x19 x28 x29 x3 = some (impl_IsRing.toH t)) := by
  induction n using Nat.strongRecOn with
  | _ n ih =>
  refine ⟨fun K hK x18 x19 x3 t h => ?_, fun K hK x4 x18 x19 x28 x29 x3 t h => ?_⟩
  all_goals (rcases n with _ | k)
  all_goals (try (exact nos h))
  all_goals (obtain ⟨K, rfl⟩ : ∃ q, K = q + 1 := ⟨K - 1, by omega⟩)
  all_goals (first | rw [impl_IsRing.e5] | rw [impl_IsRing.e10])
  all_goals (simp only [impl_IsRing.l0, impl_IsRing.l1] at h)
  repeat' (with_reducible first
   | exact nos h
   | (cases some_inj h; exact impl_IsRing.rt _)
   | exact (ih _ (by omega)).1 _ (by omega) _ _ _ _ h
   | exact (ih _ (by omega)).2 _ (by omega) _ _ _ _ _ _ _ h
   | ((have q : impl_IsRing.j0 k _ _ = some _ := h; clear q); rcases k with _ | k <;> simp only [impl_IsRing.j0, reduceCtorEq] at h)
   | ((have q : impl_IsRing.j3 k _ _ _ _ _ _ _ _ _ = some _ := h; clear q); rcases k with _ | k <;> simp only [impl_IsRing.j3, reduceCtorEq] at h)
   | (simp only [Option.bind_some] at h)
   | (refine ite_by h (fun hc h => ?_) (fun hc h => ?_) <;> (try simp only [nrm] at hc))
   | refine itT ?_ (by first | assumption | omega | (simp only [nrm]; first | done | assumption | omega) | (simp only [nln] at hc ⊢; omega))
   | refine itF ?_ (by first | assumption | omega | (simp only [nrm]; first | done | assumption | omega) | (simp only [nln] at hc ⊢; omega))
   | (refine bind_by h (fun t ht h => ?_); (first | refine (impl_around.ap_of (impl_around.go ht _ (by omega))).trans ?_ | refine (impl_IsSegment.ap_of (impl_IsSegment.go ht _)).trans ?_ | refine (impl_HowMeet.ap_of (impl_HowMeet.go ht _ (by omega))).trans ?_); (try dsimp only at h ⊢))
   | (simp only [decide_not, Bool.decide_and, decide_true, Bool.and_true, Bool.not_and, beqI] at h ⊢)
   | (exfalso; omega))
theorem impl_IsRing.go {k : Nat} {l0 : List S82} {t} (h : impl_IsRing.f k l0 = some t) (K : Nat) (hK : k ≤ K) : impl_IsRing.run K (l0, ()) = some (impl_IsRing.toH t) := by
  rw [impl_IsRing.ef]
  (try dsimp only)
  unfold impl_IsRing.f at h
  repeat' (with_reducible first
   | exact nos h
   | (cases some_inj h; exact impl_IsRing.rt _)
   | exact (impl_IsRing.br _).1 _ (by omega) _ _ _ _ h
   | exact (impl_IsRing.br _).2 _ (by omega) _ _ _ _ _ _ _ h
   | ((have q : impl_IsRing.j0 k _ _ = some _ := h; clear q); rcases k with _ | k <;> simp only [impl_IsRing.j0, reduceCtorEq] at h)
   | ((have q : impl_IsRing.j3 k _ _ _ _ _ _ _ _ _ = some _ := h; clear q); rcases k with _ | k <;> simp only [impl_IsRing.j3, reduceCtorEq] at h)
   | (simp only [Option.bind_some] at h)
   | (refine ite_by h (fun hc h => ?_) (fun hc h => ?_) <;> (try simp only [nrm] at hc))
   | refine itT ?_ (by first | assumption | omega | (simp only [nrm]; first | done | assumption | omega) | (simp only [nln] at hc ⊢; omega))
   | refine itF ?_ (by first | assumption | omega | (simp only [nrm]; first | done | assumption | omega) | (simp only [nln] at hc ⊢; omega))
   | (refine bind_by h (fun t ht h => ?_); (first | refine (impl_around.ap_of (impl_around.go ht _ (by omega))).trans ?_ | refine (impl_IsSegment.ap_of (impl_IsSegment.go ht _)).trans ?_ | refine (impl_HowMeet.ap_of (impl_HowMeet.go ht _ (by omega))).trans ?_); (try dsimp only at h ⊢))
   | (simp only [decide_not, Bool.decide_and, decide_true, Bool.and_true, Bool.not_and, beqI] at h ⊢)
   | (exfalso; omega))
def impl_IsName.Fs : List (Spc env) := [impl_InRange.spec]
def impl_IsName.fin : St eΓ → Option (HL eΓ [.b]) := finR env Try.f122.results.toList [.b]
def impl_IsName.cut : Nat → Option (List (Lv SC)) := lk [(2, [⟨0, none, false⟩, ⟨5, none, false⟩, ⟨6, none, false⟩])]
def impl_IsName.ret (r0 : Bool) : Option (HL eΓ [.b]) := some (r0, ())
def impl_IsName.p2 (k : Nat) (x0 : ByteArray) (x5 : Int) (x6 : Int) : Option (HL eΓ [.b]) := evM env impl_IsName.Fs Try.f122.ntmps impl_IsName.fin impl_IsName.cut k [.code (sub_ [1, 0, 1, 0, 0, 0] (bodyOf Try.f122)), .code (sub_ [1, 0, 1, 0, 0, 1] (bodyOf Try.f122)), .lp (sub_ [1, 0, 1, 0, 0] (bodyOf Try.f122)), .blk 0, .code (sub_ [1, 1] (bodyOf Try.f122))] (mkSt [(0, .c (.v (.string x0))), (5, .c (.v (.int .i64 x5))), (6, .c (.v (.int .i64 x6)))] [])
theorem impl_IsName.e2 (k : Nat) (x0 : ByteArray) (x5 : Int) (x6 : Int) : impl_IsName.p2 (k + 1) x0 x5 x6 = if x6 < x5 then (if 0 ≤ x6 then (if x6 < (x0.size : Int) then (if (bt x0 x6) < 97 then (impl_IsName.ret false) else (if 0 ≤ x6 then (if x6 < (x0.size : Int) then (if (bt x0 x6) > 122 then (impl_IsName.ret false) else (impl_IsName.p2 k x0 x5 (wrap64 (x6 + 1)))) else none) else none)) else none) else none) else (impl_InRange.ap k (x0.size : Int) 1 8 fun r1 => impl_IsName.ret r1) := by kernel_rfl
def impl_IsName.run (k : Nat) (h : HL eΓ [.s]) : Option (HL eΓ [.b]) := evF env impl_IsName.Fs Try.f122 impl_IsName.cut [.s] [.b] k h
theorem impl_IsName.ef (k : Nat) (h0 : ByteArray) : impl_IsName.run k (h0, ()) = impl_IsName.p2 k h0 (h0.size : Int) 0 := by kernel_rfl
def impl_IsName.toH (t : Bool) : HL eΓ [.b] := (t, ())
def impl_IsName.spec : Spc env := ⟨122, [.s], [.b], impl_IsName.run⟩
def impl_IsName.ap {R : Type} (k : Nat) (h0 : ByteArray) (K : Bool → Option R) : Option R := (impl_IsName.run k (h0, ())).bind fun r => K (r.1 : Bool)
theorem impl_IsName.ap_of {R : Type} {k : Nat} {h0 : ByteArray} {r0 : Bool} {K : Bool → Option R} (h : impl_IsName.run k (h0, ()) = some (r0, ())) : impl_IsName.ap k h0 K = K r0 := by unfold impl_IsName.ap; rw [h]; rfl
theorem impl_IsName.snd : Snd env impl_IsName.spec := evF_snd env_ok (sndC impl_InRange.snd (sndN)) (by kernel_rfl) (by kernel_rfl) (by kernel_rfl)
attribute [local irreducible] impl_IsName.run
theorem impl_IsName.rt (a0 : Bool) : impl_IsName.ret a0 = some (impl_IsName.toH (a0)) := rfl
theorem impl_IsName.br (n : Nat) : (∀ K, n ≤ K → ∀ (x0 : ByteArray) (x5 : Int) (x6 : Int) t, impl_IsName.l0 n x0 x5 x6 = some t → impl_IsName.p2 K x0 x5 x6 = some (impl_IsName.toH t)) := by
  induction n using Nat.strongRecOn with
  | _ n ih =>
  intro K hK x0 x5 x6 t h
  all_goals (rcases n with _ | k)
  all_goals (try (exact nos h))
  all_goals (obtain ⟨K, rfl⟩ : ∃ q, K = q + 1 := ⟨K - 1, by omega⟩)
  all_goals (first | rw [impl_IsName.e2])
  all_goals (simp only [impl_IsName.l0] at h)
  repeat' (with_reducible first
   | exact nos h
   | (cases some_inj h; exact impl_IsName.rt _)
   | exact (ih _ (by omega)) _ (by omega) _ _ _ _ h
   | (simp only [Option.bind_some] at h)
   | (refine ite_by h (fun hc h => ?_) (fun hc h => ?_) <;> (try simp only [nrm] at hc))
   | refine itT ?_ (by first | assumption | omega | (simp only [nrm]; first | done | assumption | omega) | (simp only [nln] at hc ⊢; omega))
   | refine itF ?_ (by first | assumption | omega | (simp only [nrm]; first | done | assumption | omega) | (simp only [nln] at hc ⊢; omega))
   | (refine bind_by h (fun t ht h => ?_); refine (impl_InRange.ap_of (impl_InRange.go ht _)).trans ?_; (try dsimp only at h ⊢))
   | (simp only [decide_not, Bool.decide_and, decide_true, Bool.and_true, Bool.not_and, beqI] at h ⊢)
   | (exfalso; omega))
theorem impl_IsName.go {k : Nat} {a0 : ByteArray} {t} (h : impl_IsName.f k a0 = some t) (K : Nat) (hK : k ≤ K) : impl_IsName.run K (a0, ()) = some (impl_IsName.toH t) := by
  rw [impl_IsName.ef]
  (try dsimp only)
  unfold impl_IsName.f at h
  repeat' (with_reducible first
   | exact nos h
   | (cases some_inj h; exact impl_IsName.rt _)
   | exact (impl_IsName.br _) _ (by omega) _ _ _ _ h
   | (simp only [Option.bind_some] at h)
   | (refine ite_by h (fun hc h => ?_) (fun hc h => ?_) <;> (try simp only [nrm] at hc))
   | refine itT ?_ (by first | assumption | omega | (simp only [nrm]; first | done | assumption | omega) | (simp only [nln] at hc ⊢; omega))
   | refine itF ?_ (by first | assumption | omega | (simp only [nrm]; first | done | assumption | omega) | (simp only [nln] at hc ⊢; omega))
   | (refine bind_by h (fun t ht h => ?_); refine (impl_InRange.ap_of (impl_InRange.go ht _)).trans ?_; (try dsimp only at h ⊢))
   | (simp only [decide_not, Bool.decide_and, decide_true, Bool.and_true, Bool.not_and, beqI] at h ⊢)
   | (exfalso; omega))
def impl_IsLine.Fs : List (Spc env) := [impl_IsPoint.spec]
def impl_IsLine.fin : St eΓ → Option (HL eΓ [.b]) := finR env Try.f111.results.toList [.b]
def impl_IsLine.cut : Nat → Option (List (Lv SC)) := lk [(4, [⟨0, none, false⟩, ⟨13, none, false⟩, ⟨14, none, false⟩, ⟨15, none, false⟩])]
def impl_IsLine.ret (r0 : Bool) : Option (HL eΓ [.b]) := some (r0, ())
def impl_IsLine.p4 (k : Nat) (x14 : Int) (x15 : Int) (x0 : List S82) : Option (HL eΓ [.b]) := evM env impl_IsLine.Fs Try.f111.ntmps impl_IsLine.fin impl_IsLine.cut k [.code (sub_ [1, 1, 0, 1, 0, 0, 0] (bodyOf Try.f111)), .code (sub_ [1, 1, 0, 1, 0, 0, 1] (bodyOf Try.f111)), .lp (sub_ [1, 1, 0, 1, 0, 0] (bodyOf Try.f111)), .blk 0, .code (sub_ [1, 1, 1] (bodyOf Try.f111))] (mkSt [(0, .c (.sl 0)), (13, .c (.sl 0)), (14, .c (.v (.int .i64 x14))), (15, .c (.v (.int .i64 x15)))] [.row .ro 82 (.st .s82) x0])
theorem impl_IsLine.e4 (k : Nat) (x14 : Int) (x15 : Int) (x0 : List S82) : impl_IsLine.p4 (k + 1) x14 x15 x0 = if x15 < x14 then (if 0 ≤ x15 then (if x15 < (x0.length : Int) then (impl_IsPoint.ap k (⟨(rd_T82 x0 x15).f0, (rd_T82 x0 x15).f1⟩ : S82) fun r1 => if (!r1) = true then (impl_IsLine.ret false) else (if x15 > 0 then (if 0 ≤ (wrap64 (x15 - 1)) then (if (wrap64 (x15 - 1)) < (x0.length : Int) then (if ((rd_T82 x0 x15).f0) = ((rd_T82 x0 (wrap64 (x15 - 1))).f0) ∧ (((rd_T82 x0 x15).f1) = ((rd_T82 x0 (wrap64 (x15 - 1))).f1) ∧ True) then (impl_IsLine.ret false) else (impl_IsLine.p4 k x14 (wrap64 (x15 + 1)) x0)) else none) else none) else (impl_IsLine.p4 k x14 (wrap64 (x15 + 1)) x0))) else none) else none) else (impl_IsLine.ret true) := by kernel_rfl
def impl_IsLine.run (k : Nat) (h : HL eΓ [.l 82 (.st .s82)]) : Option (HL eΓ [.b]) := evF env impl_IsLine.Fs Try.f111 impl_IsLine.cut [.l 82 (.st .s82)] [.b] k h
theorem impl_IsLine.ef (k : Nat) (h0 : List S82) : impl_IsLine.run k (h0, ()) = if (h0.length : Int) < 2 then (impl_IsLine.ret false) else (if (h0.length : Int) > 10 then (impl_IsLine.ret false) else (impl_IsLine.p4 k (h0.length : Int) 0 h0)) := by kernel_rfl
def impl_IsLine.toH (t : Bool) : HL eΓ [.b] := (t, ())
def impl_IsLine.spec : Spc env := ⟨111, [.l 82 (.st .s82)], [.b], impl_IsLine.run⟩
def impl_IsLine.ap {R : Type} (k : Nat) (h0 : List S82) (K : Bool → Option R) : Option R := (impl_IsLine.run k (h0, ())).bind fun r => K (r.1 : Bool)
theorem impl_IsLine.ap_of {R : Type} {k : Nat} {h0 : List S82} {r0 : Bool} {K : Bool → Option R} (h : impl_IsLine.run k (h0, ()) = some (r0, ())) : impl_IsLine.ap k h0 K = K r0 := by unfold impl_IsLine.ap; rw [h]; rfl
theorem impl_IsLine.snd : Snd env impl_IsLine.spec := evF_snd env_ok (sndC impl_IsPoint.snd (sndN)) (by kernel_rfl) (by kernel_rfl) (by kernel_rfl)
attribute [local irreducible] impl_IsLine.run
theorem impl_IsLine.rt (a0 : Bool) : impl_IsLine.ret a0 = some (impl_IsLine.toH (a0)) := rfl
theorem impl_IsLine.br (n : Nat) : (∀ K, n ≤ K → ∀ (x14 : Int) (x15 : Int) (x0 : List S82) t, impl_IsLine.l0 n x0 x0 x14 x15 = some t → impl_IsLine.p4 K x14 x15 x0 = some (impl_IsLine.toH t)) := by
  induction n using Nat.strongRecOn with
  | _ n ih =>
  intro K hK x14 x15 x0 t h
  all_goals (rcases n with _ | k)
  all_goals (try (exact nos h))
  all_goals (obtain ⟨K, rfl⟩ : ∃ q, K = q + 1 := ⟨K - 1, by omega⟩)
  all_goals (first | rw [impl_IsLine.e4])
  all_goals (simp only [impl_IsLine.l0] at h)
  repeat' (with_reducible first
   | exact nos h
   | (cases some_inj h; exact impl_IsLine.rt _)
   | exact (ih _ (by omega)) _ (by omega) _ _ _ _ h
   | ((have q : impl_IsLine.j0 k _ _ = some _ := h; clear q); rcases k with _ | k <;> simp only [impl_IsLine.j0, reduceCtorEq] at h)
   | (simp only [Option.bind_some] at h)
   | (refine ite_by h (fun hc h => ?_) (fun hc h => ?_) <;> (try simp only [nrm] at hc))
   | refine itT ?_ (by first | assumption | omega | (simp only [nrm]; first | done | assumption | omega) | (simp only [nln] at hc ⊢; omega))
   | refine itF ?_ (by first | assumption | omega | (simp only [nrm]; first | done | assumption | omega) | (simp only [nln] at hc ⊢; omega))
   | (refine bind_by h (fun t ht h => ?_); refine (impl_IsPoint.ap_of (impl_IsPoint.go ht _)).trans ?_; (try dsimp only at h ⊢))
   | (simp only [decide_not, Bool.decide_and, decide_true, Bool.and_true, Bool.not_and, beqI] at h ⊢)
   | (exfalso; omega))
theorem impl_IsLine.go {k : Nat} {l0 : List S82} {t} (h : impl_IsLine.f k l0 = some t) (K : Nat) (hK : k ≤ K) : impl_IsLine.run K (l0, ()) = some (impl_IsLine.toH t) := by
  rw [impl_IsLine.ef]
  (try dsimp only)
  unfold impl_IsLine.f at h
  repeat' (with_reducible first
   | exact nos h
   | (cases some_inj h; exact impl_IsLine.rt _)
   | exact (impl_IsLine.br _) _ (by omega) _ _ _ _ h
   | ((have q : impl_IsLine.j0 k _ _ = some _ := h; clear q); rcases k with _ | k <;> simp only [impl_IsLine.j0, reduceCtorEq] at h)
   | (simp only [Option.bind_some] at h)
   | (refine ite_by h (fun hc h => ?_) (fun hc h => ?_) <;> (try simp only [nrm] at hc))
   | refine itT ?_ (by first | assumption | omega | (simp only [nrm]; first | done | assumption | omega) | (simp only [nln] at hc ⊢; omega))
   | refine itF ?_ (by first | assumption | omega | (simp only [nrm]; first | done | assumption | omega) | (simp only [nln] at hc ⊢; omega))
   | (refine bind_by h (fun t ht h => ?_); refine (impl_IsPoint.ap_of (impl_IsPoint.go ht _)).trans ?_; (try dsimp only at h ⊢))
   | (simp only [decide_not, Bool.decide_and, decide_true, Bool.and_true, Bool.not_and, beqI] at h ⊢)
   | (exfalso; omega))
def impl_SegmentsOf.Fs : List (Spc env) := [impl_IsLine.spec]
def impl_SegmentsOf.fin : St eΓ → Option (HL eΓ [.l 85 (.st .s85)]) := finR env Try.f126.results.toList [.l 85 (.st .s85)]
def impl_SegmentsOf.cut : Nat → Option (List (Lv SC)) := lk [(5, [⟨0, none, false⟩, ⟨3, none, false⟩, ⟨4, none, false⟩])]
def impl_SegmentsOf.ret (r0 : List S85) : Option (HL eΓ [.l 85 (.st .s85)]) := some (r0, ())
def impl_SegmentsOf.p5 (k : Nat) (x4 : Int) (x0 : List S82) (x3 : List S85) : Option (HL eΓ [.l 85 (.st .s85)]) := evM env impl_SegmentsOf.Fs Try.f126.ntmps impl_SegmentsOf.fin impl_SegmentsOf.cut k [.code (sub_ [1, 1, 1, 0, 1, 0, 0, 0, 0] (bodyOf Try.f126)), .code (sub_ [1, 1, 1, 0, 1, 0, 0, 0, 1] (bodyOf Try.f126)), .code (sub_ [1, 1, 1, 0, 1, 0, 0, 1] (bodyOf Try.f126)), .lp (sub_ [1, 1, 1, 0, 1, 0, 0] (bodyOf Try.f126)), .blk 0, .code (sub_ [1, 1, 1, 1] (bodyOf Try.f126))] (mkSt [(0, .c (.sl 0)), (3, .c (.sl 1)), (4, .c (.v (.int .i64 x4)))] [.row .ro 82 (.st .s82) x0, .row .own 85 (.st .s85) x3])
theorem impl_SegmentsOf.e5 (k : Nat) (x4 : Int) (x0 : List S82) (x3 : List S85) : impl_SegmentsOf.p5 (k + 1) x4 x0 x3 = if x4 < (x0.length : Int) then (if 0 ≤ (wrap64 (x4 - 1)) then (if (wrap64 (x4 - 1)) < (x0.length : Int) then (if 0 ≤ x4 then (if x4 < (x0.length : Int) then (if (x3.length + 1) * 32 ≤ 140737488355328 then (impl_SegmentsOf.p5 k (wrap64 (x4 + 1)) x0 (x3 ++ [(⟨(⟨(rd_T82 x0 (wrap64 (x4 - 1))).f0, (rd_T82 x0 (wrap64 (x4 - 1))).f1⟩ : S82), (⟨(rd_T82 x0 x4).f0, (rd_T82 x0 x4).f1⟩ : S82)⟩ : S85)])) else none) else none) else none) else none) else none) else (impl_SegmentsOf.ret x3) := by kernel_rfl
def impl_SegmentsOf.run (k : Nat) (h : HL eΓ [.l 82 (.st .s82)]) : Option (HL eΓ [.l 85 (.st .s85)]) := evF env impl_SegmentsOf.Fs Try.f126 impl_SegmentsOf.cut [.l 82 (.st .s82)] [.l 85 (.st .s85)] k h
theorem impl_SegmentsOf.ef (k : Nat) (h0 : List S82) : impl_SegmentsOf.run k (h0, ()) = impl_IsLine.ap k h0 fun r1 => if (!r1) = true then (impl_SegmentsOf.ret ([] : List S85)) else (impl_SegmentsOf.p5 k 1 h0 ([] : List S85)) := by kernel_rfl
def impl_SegmentsOf.toH (t : (List (S85))) : HL eΓ [.l 85 (.st .s85)] := (t, ())
def impl_SegmentsOf.spec : Spc env := ⟨126, [.l 82 (.st .s82)], [.l 85 (.st .s85)], impl_SegmentsOf.run⟩
def impl_SegmentsOf.ap {R : Type} (k : Nat) (h0 : List S82) (K : (List S85) → Option R) : Option R := (impl_SegmentsOf.run k (h0, ())).bind fun r => K (r.1 : List S85)
theorem impl_SegmentsOf.ap_of {R : Type} {k : Nat} {h0 : List S82} {r0 : List S85} {K : (List S85) → Option R} (h : impl_SegmentsOf.run k (h0, ()) = some (r0, ())) : impl_SegmentsOf.ap k h0 K = K r0 := by unfold impl_SegmentsOf.ap; rw [h]; rfl
theorem impl_SegmentsOf.snd : Snd env impl_SegmentsOf.spec := evF_snd env_ok (sndC impl_IsLine.snd (sndN)) (by kernel_rfl) (by kernel_rfl) (by kernel_rfl)
attribute [local irreducible] impl_SegmentsOf.run
theorem impl_SegmentsOf.rt (a0 : List S85) : impl_SegmentsOf.ret a0 = some (impl_SegmentsOf.toH (a0)) := rfl
theorem impl_SegmentsOf.br (n : Nat) : (∀ K, n ≤ K → ∀ (x4 : Int) (x0 : List S82) (x3 : List S85) t, impl_SegmentsOf.l0 n x0 x3 x4 = some t → impl_SegmentsOf.p5 K x4 x0 x3 = some (impl_SegmentsOf.toH t)) := by
  induction n using Nat.strongRecOn with
  | _ n ih =>
  intro K hK x4 x0 x3 t h
  all_goals (rcases n with _ | k)
  all_goals (try (exact nos h))
  all_goals (obtain ⟨K, rfl⟩ : ∃ q, K = q + 1 := ⟨K - 1, by omega⟩)
  all_goals (first | rw [impl_SegmentsOf.e5])
  all_goals (simp only [impl_SegmentsOf.l0] at h)
  repeat' (with_reducible first
   | exact nos h
   | (cases some_inj h; exact impl_SegmentsOf.rt _)
   | exact (ih _ (by omega)) _ (by omega) _ _ _ _ h
   | (simp only [Option.bind_some] at h)
   | (refine ite_by h (fun hc h => ?_) (fun hc h => ?_) <;> (try simp only [nrm] at hc))
   | refine itT ?_ (by first | assumption | omega | (simp only [nrm]; first | done | assumption | omega) | (simp only [nln] at hc ⊢; omega))
   | refine itF ?_ (by first | assumption | omega | (simp only [nrm]; first | done | assumption | omega) | (simp only [nln] at hc ⊢; omega))
   | (refine bind_by h (fun t ht h => ?_); refine (impl_IsLine.ap_of (impl_IsLine.go ht _ (by omega))).trans ?_; (try dsimp only at h ⊢))
   | (simp only [decide_not, Bool.decide_and, decide_true, Bool.and_true, Bool.not_and, beqI] at h ⊢)
   | (exfalso; omega))
theorem impl_SegmentsOf.go {k : Nat} {l0 : List S82} {t} (h : impl_SegmentsOf.f k l0 = some t) (K : Nat) (hK : k ≤ K) : impl_SegmentsOf.run K (l0, ()) = some (impl_SegmentsOf.toH t) := by
  rw [impl_SegmentsOf.ef]
  (try dsimp only)
  unfold impl_SegmentsOf.f at h
  repeat' (with_reducible first
   | exact nos h
   | (cases some_inj h; exact impl_SegmentsOf.rt _)
   | exact (impl_SegmentsOf.br _) _ (by omega) _ _ _ _ h
   | (simp only [Option.bind_some] at h)
   | (refine ite_by h (fun hc h => ?_) (fun hc h => ?_) <;> (try simp only [nrm] at hc))
   | refine itT ?_ (by first | assumption | omega | (simp only [nrm]; first | done | assumption | omega) | (simp only [nln] at hc ⊢; omega))
   | refine itF ?_ (by first | assumption | omega | (simp only [nrm]; first | done | assumption | omega) | (simp only [nln] at hc ⊢; omega))
   | (refine bind_by h (fun t ht h => ?_); refine (impl_IsLine.ap_of (impl_IsLine.go ht _ (by omega))).trans ?_; (try dsimp only at h ⊢))
   | (simp only [decide_not, Bool.decide_and, decide_true, Bool.and_true, Bool.not_and, beqI] at h ⊢)
   | (exfalso; omega))
def impl_IsSimple.Fs : List (Spc env) := [impl_IsLine.spec, impl_SegmentsOf.spec, impl_HowMeet.spec]
def impl_IsSimple.fin : St eΓ → Option (HL eΓ [.b]) := finR env Try.f124.results.toList [.b]
def impl_IsSimple.cut : Nat → Option (List (Lv SC)) := lk [(5, [⟨3, none, false⟩, ⟨13, none, false⟩, ⟨14, none, false⟩]), (8, [⟨3, none, false⟩, ⟨4, none, false⟩, ⟨13, none, false⟩, ⟨14, none, false⟩, ⟨17, none, false⟩, ⟨18, none, false⟩])]
def impl_IsSimple.ret (r0 : Bool) : Option (HL eΓ [.b]) := some (r0, ())
def impl_IsSimple.p5 (k : Nat) (x13 : Int) (x14 : Int) (x3 : List S85) : Option (HL eΓ [.b]) := evM env impl_IsSimple.Fs Try.f124.ntmps impl_IsSimple.fin impl_IsSimple.cut k [.code (sub_ [1, 1, 1, 0, 1, 0, 0, 0] (bodyOf Try.f124)), .code (sub_ [1, 1, 1, 0, 1, 0, 0, 1] (bodyOf Try.f124)), .lp (sub_ [1, 1, 1, 0, 1, 0, 0] (bodyOf Try.f124)), .blk 0, .code (sub_ [1, 1, 1, 1] (bodyOf Try.f124))] (mkSt [(3, .c (.sl 0)), (13, .c (.v (.int .i64 x13))), (14, .c (.v (.int .i64 x14)))] [.row .own 85 (.st .s85) x3])
def impl_IsSimple.p8 (k : Nat) (x4 : Int) (x13 : Int) (x14 : Int) (x17 : Int) (x18 : Int) (x3 : List S85) : Option (HL eΓ [.b]) := evM env impl_IsSimple.Fs Try.f124.ntmps impl_IsSimple.fin impl_IsSimple.cut k [.code (sub_ [1, 1, 1, 0, 1, 0, 0, 1, 1, 0, 0, 1, 1, 0, 0, 0] (bodyOf Try.f124)), .code (sub_ [1, 1, 1, 0, 1, 0, 0, 1, 1, 0, 0, 1, 1, 0, 0, 1] (bodyOf Try.f124)), .lp (sub_ [1, 1, 1, 0, 1, 0, 0, 1, 1, 0, 0, 1, 1, 0, 0] (bodyOf Try.f124)), .blk 2, .blk 1, .code (sub_ [1, 1, 1, 0, 1, 0, 0, 1, 1, 1] (bodyOf Try.f124)), .lp (sub_ [1, 1, 1, 0, 1, 0, 0] (bodyOf Try.f124)), .blk 0, .code (sub_ [1, 1, 1, 1] (bodyOf Try.f124))] (mkSt [(3, .c (.sl 0)), (4, .c (.v (.int .i64 x4))), (13, .c (.v (.int .i64 x13))), (14, .c (.v (.int .i64 x14))), (17, .c (.v (.int .i64 x17))), (18, .c (.v (.int .i64 x18)))] [.row .own 85 (.st .s85) x3])
theorem impl_IsSimple.e5 (k : Nat) (x13 : Int) (x14 : Int) (x3 : List S85) : impl_IsSimple.p5 (k + 1) x13 x14 x3 = if x14 < x13 then (impl_IsSimple.p8 k x14 x13 x14 x14 0 x3) else (impl_IsSimple.ret true) := by kernel_rfl
theorem impl_IsSimple.e8 (k : Nat) (x4 : Int) (x13 : Int) (x14 : Int) (x17 : Int) (x18 : Int) (x3 : List S85) : impl_IsSimple.p8 (k + 1) x4 x13 x14 x17 x18 x3 = if x18 < x17 then (if x18 = (wrap64 (x4 - 1)) then (if 0 ≤ x4 then (if x4 < (x3.length : Int) then (if 0 ≤ x18 then (if x18 < (x3.length : Int) then (impl_HowMeet.ap k (⟨(⟨(rd_T85 x3 x4).f0.f0, (rd_T85 x3 x4).f0.f1⟩ : S82), (⟨(rd_T85 x3 x4).f1.f0, (rd_T85 x3 x4).f1.f1⟩ : S82)⟩ : S85) (⟨(⟨(rd_T85 x3 x18).f0.f0, (rd_T85 x3 x18).f0.f1⟩ : S82), (⟨(rd_T85 x3 x18).f1.f0, (rd_T85 x3 x18).f1.f1⟩ : S82)⟩ : S85) fun r1 => if ¬ r1 = 1 then (impl_IsSimple.ret false) else (impl_IsSimple.p8 k x4 x13 x14 x17 (wrap64 (x18 + 1)) x3)) else none) else none) else none) else none) else (if 0 ≤ x4 then (if x4 < (x3.length : Int) then (if 0 ≤ x18 then (if x18 < (x3.length : Int) then (impl_HowMeet.ap k (⟨(⟨(rd_T85 x3 x4).f0.f0, (rd_T85 x3 x4).f0.f1⟩ : S82), (⟨(rd_T85 x3 x4).f1.f0, (rd_T85 x3 x4).f1.f1⟩ : S82)⟩ : S85) (⟨(⟨(rd_T85 x3 x18).f0.f0, (rd_T85 x3 x18).f0.f1⟩ : S82), (⟨(rd_T85 x3 x18).f1.f0, (rd_T85 x3 x18).f1.f1⟩ : S82)⟩ : S85) fun r2 => if ¬ r2 = 0 then (impl_IsSimple.ret false) else (impl_IsSimple.p8 k x4 x13 x14 x17 (wrap64 (x18 + 1)) x3)) else none) else none) else none) else none)) else (impl_IsSimple.p5 k x13 (wrap64 (x14 + 1)) x3) := by kernel_rfl
def impl_IsSimple.run (k : Nat) (h : HL eΓ [.l 82 (.st .s82)]) : Option (HL eΓ [.b]) := evF env impl_IsSimple.Fs Try.f124 impl_IsSimple.cut [.l 82 (.st .s82)] [.b] k h
theorem impl_IsSimple.ef (k : Nat) (h0 : List S82) : impl_IsSimple.run k (h0, ()) = impl_IsLine.ap k h0 fun r1 => if (!r1) = true then (impl_IsSimple.ret false) else (impl_SegmentsOf.ap k h0 fun r2 => impl_IsSimple.p5 k (r2.length : Int) 0 r2) := by kernel_rfl
def impl_IsSimple.toH (t : Bool) : HL eΓ [.b] := (t, ())
def impl_IsSimple.spec : Spc env := ⟨124, [.l 82 (.st .s82)], [.b], impl_IsSimple.run⟩
def impl_IsSimple.ap {R : Type} (k : Nat) (h0 : List S82) (K : Bool → Option R) : Option R := (impl_IsSimple.run k (h0, ())).bind fun r => K (r.1 : Bool)
theorem impl_IsSimple.ap_of {R : Type} {k : Nat} {h0 : List S82} {r0 : Bool} {K : Bool → Option R} (h : impl_IsSimple.run k (h0, ()) = some (r0, ())) : impl_IsSimple.ap k h0 K = K r0 := by unfold impl_IsSimple.ap; rw [h]; rfl
theorem impl_IsSimple.snd : Snd env impl_IsSimple.spec := evF_snd env_ok (sndC impl_IsLine.snd (sndC impl_SegmentsOf.snd (sndC impl_HowMeet.snd (sndN)))) (by kernel_rfl) (by kernel_rfl) (by kernel_rfl)
attribute [local irreducible] impl_IsSimple.run
theorem impl_IsSimple.rt (a0 : Bool) : impl_IsSimple.ret a0 = some (impl_IsSimple.toH (a0)) := rfl
theorem impl_IsSimple.br (n : Nat) : (∀ K, n ≤ K → ∀ (x13 : Int) (x14 : Int) (x3 : List S85) t, impl_IsSimple.l0 n x3 x13 x14 = some t → impl_IsSimple.p5 K x13 x14 x3 = some (impl_IsSimple.toH t)) ∧ (∀ K, n ≤ K → ∀ (x4 : Int) (x13 : Int) (x14 : Int) (x17 : Int) (x18 : Int) (x3 : List S85) t, impl_IsSimple.l1 n x3 x4 x13 x14 x17 x18 = some t → impl_IsSimple.p8 K x4 x13 x14 x17 x18 x3 = some (impl_IsSimple.toH t)) := by
  induction n using Nat.strongRecOn with
  | _ n ih =>
  refine ⟨fun K hK x13 x14 x3 t h => ?_, fun K hK x4 x13 x14 x17 x18 x3 t h => ?_⟩
  all_goals (rcases n with _ | k)
  all_goals (try (exact nos h))
  all_goals (obtain ⟨K, rfl⟩ : ∃ q, K = q + 1 := ⟨K - 1, by omega⟩)
  all_goals (first | rw [impl_IsSimple.e5] | rw [impl_IsSimple.e8])
  all_goals (simp only [impl_IsSimple.l0, impl_IsSimple.l1] at h)
  repeat' (with_reducible first
   | exact nos h
   | (cases some_inj h; exact impl_IsSimple.rt _)
   | exact (ih _ (by omega)).1 _ (by omega) _ _ _ _ h
   | exact (ih _ (by omega)).2 _ (by omega) _ _ _ _ _ _ _ h
   | (simp only [Option.bind_some] at h)
   | (refine ite_by h (fun hc h => ?_) (fun hc h => ?_) <;> (try simp only [nrm] at hc))
   | refine itT ?_ (by first | assumption | omega | (simp only [nrm]; first | done | assumption | omega) | (simp only [nln] at hc ⊢; omega))
   | refine itF ?_ (by first | assumption | omega | (simp only [nrm]; first | done | assumption | omega) | (simp only [nln] at hc ⊢; omega))
   | (refine bind_by h (fun t ht h => ?_); (first | refine (impl_IsLine.ap_of (impl_IsLine.go ht _ (by omega))).trans ?_ | refine (impl_SegmentsOf.ap_of (impl_SegmentsOf.go ht _ (by omega))).trans ?_ | refine (impl_HowMeet.ap_of (impl_HowMeet.go ht _ (by omega))).trans ?_); (try dsimp only at h ⊢))
   | (simp only [decide_not, Bool.decide_and, decide_true, Bool.and_true, Bool.not_and, beqI] at h ⊢)
   | (exfalso; omega))
theorem impl_IsSimple.go {k : Nat} {l0 : List S82} {t} (h : impl_IsSimple.f k l0 = some t) (K : Nat) (hK : k ≤ K) : impl_IsSimple.run K (l0, ()) = some (impl_IsSimple.toH t) := by
  rw [impl_IsSimple.ef]
  (try dsimp only)
  unfold impl_IsSimple.f at h
  repeat' (with_reducible first
   | exact nos h
   | (cases some_inj h; exact impl_IsSimple.rt _)
   | exact (impl_IsSimple.br _).1 _ (by omega) _ _ _ _ h
   | exact (impl_IsSimple.br _).2 _ (by omega) _ _ _ _ _ _ _ h
   | (simp only [Option.bind_some] at h)
   | (refine ite_by h (fun hc h => ?_) (fun hc h => ?_) <;> (try simp only [nrm] at hc))
   | refine itT ?_ (by first | assumption | omega | (simp only [nrm]; first | done | assumption | omega) | (simp only [nln] at hc ⊢; omega))
   | refine itF ?_ (by first | assumption | omega | (simp only [nrm]; first | done | assumption | omega) | (simp only [nln] at hc ⊢; omega))
   | (refine bind_by h (fun t ht h => ?_); (first | refine (impl_IsLine.ap_of (impl_IsLine.go ht _ (by omega))).trans ?_ | refine (impl_SegmentsOf.ap_of (impl_SegmentsOf.go ht _ (by omega))).trans ?_ | refine (impl_HowMeet.ap_of (impl_HowMeet.go ht _ (by omega))).trans ?_); (try dsimp only at h ⊢))
   | (simp only [decide_not, Bool.decide_and, decide_true, Bool.and_true, Bool.not_and, beqI] at h ⊢)
   | (exfalso; omega))
def impl_IsFeature.Fs : List (Spc env) := [impl_InRange.spec, impl_IsName.spec, impl_IsPoint.spec, impl_IsSimple.spec, impl_IsRing.spec]
def impl_IsFeature.cut : Nat → Option (List (Lv SC)) := lk []
def impl_IsFeature.ret (r0 : Bool) : Option (HL eΓ [.b]) := some (r0, ())
def impl_IsFeature.run (k : Nat) (h : HL eΓ [.st .s29]) : Option (HL eΓ [.b]) := evF env impl_IsFeature.Fs Try.f72 impl_IsFeature.cut [.st .s29] [.b] k h
theorem impl_IsFeature.ef (k : Nat) (h0 : S29) : impl_IsFeature.run k (h0, ()) = impl_InRange.ap k h0.f0 1 99 fun r1 => if (!r1) = true then (impl_IsFeature.ret false) else (impl_InRange.ap k h0.f2 0 9 fun r2 => if (!r2) = true then (impl_IsFeature.ret false) else (if ¬ h0.f3.toList = [] then (impl_IsName.ap k h0.f3 fun r3 => if (!r3) = true then (impl_IsFeature.ret false) else (if h0.f1 = 1 then (if (h0.f4.length : Int) = 1 then (if 0 < (h0.f4.length : Int) then (impl_IsPoint.ap k (⟨(rd_T82 h0.f4 0).f0, (rd_T82 h0.f4 0).f1⟩ : S82) fun r4 => impl_IsFeature.ret r4) else none) else (impl_IsFeature.ret false)) else (if h0.f1 = 2 then (impl_IsSimple.ap k h0.f4 fun r5 => impl_IsFeature.ret r5) else (if h0.f1 = 3 then (impl_IsRing.ap k h0.f4 fun r6 => impl_IsFeature.ret r6) else (impl_IsFeature.ret false))))) else (if h0.f1 = 1 then (if (h0.f4.length : Int) = 1 then (if 0 < (h0.f4.length : Int) then (impl_IsPoint.ap k (⟨(rd_T82 h0.f4 0).f0, (rd_T82 h0.f4 0).f1⟩ : S82) fun r7 => impl_IsFeature.ret r7) else none) else (impl_IsFeature.ret false)) else (if h0.f1 = 2 then (impl_IsSimple.ap k h0.f4 fun r8 => impl_IsFeature.ret r8) else (if h0.f1 = 3 then (impl_IsRing.ap k h0.f4 fun r9 => impl_IsFeature.ret r9) else (impl_IsFeature.ret false)))))) := by kernel_rfl
def impl_IsFeature.toH (t : Bool) : HL eΓ [.b] := (t, ())
def impl_IsFeature.spec : Spc env := ⟨72, [.st .s29], [.b], impl_IsFeature.run⟩
def impl_IsFeature.ap {R : Type} (k : Nat) (h0 : S29) (K : Bool → Option R) : Option R := (impl_IsFeature.run k (h0, ())).bind fun r => K (r.1 : Bool)
theorem impl_IsFeature.ap_of {R : Type} {k : Nat} {h0 : S29} {r0 : Bool} {K : Bool → Option R} (h : impl_IsFeature.run k (h0, ()) = some (r0, ())) : impl_IsFeature.ap k h0 K = K r0 := by unfold impl_IsFeature.ap; rw [h]; rfl
theorem impl_IsFeature.snd : Snd env impl_IsFeature.spec := evF_snd env_ok (sndC impl_InRange.snd (sndC impl_IsName.snd (sndC impl_IsPoint.snd (sndC impl_IsSimple.snd (sndC impl_IsRing.snd (sndN)))))) (by kernel_rfl) (by kernel_rfl) (by kernel_rfl)
attribute [local irreducible] impl_IsFeature.run
theorem impl_IsFeature.rt (a0 : Bool) : impl_IsFeature.ret a0 = some (impl_IsFeature.toH (a0)) := rfl
theorem impl_IsFeature.go {k : Nat} {a0_0 : Int} {a0_1 : Int} {a0_2 : Int} {a0_3 : ByteArray} {l0_4 : List S82} {t} (h : impl_IsFeature.f k a0_0 a0_1 a0_2 a0_3 l0_4 = some t) (K : Nat) (hK : k ≤ K) : impl_IsFeature.run K ((⟨a0_0, a0_1, a0_2, a0_3, l0_4⟩ : S29), ()) = some (impl_IsFeature.toH t) := by
  rw [impl_IsFeature.ef]
  (try dsimp only)
  unfold impl_IsFeature.f at h
  repeat' (with_reducible first
   | exact nos h
   | (cases some_inj h; exact impl_IsFeature.rt _)
   | ((have q : impl_IsFeature.j0 k _ _ _ _ _ _ = some _ := h; clear q); rcases k with _ | k <;> simp only [impl_IsFeature.j0, reduceCtorEq] at h)
   | (simp only [Option.bind_some] at h)
   | (refine ite_by h (fun hc h => ?_) (fun hc h => ?_) <;> (try simp only [nrm] at hc))
   | refine itT ?_ (by first | assumption | omega | (simp only [nrm]; first | done | assumption | omega) | (simp only [nln] at hc ⊢; omega))
   | refine itF ?_ (by first | assumption | omega | (simp only [nrm]; first | done | assumption | omega) | (simp only [nln] at hc ⊢; omega))
   | (refine bind_by h (fun t ht h => ?_); (first | refine (impl_InRange.ap_of (impl_InRange.go ht _)).trans ?_ | refine (impl_IsName.ap_of (impl_IsName.go ht _ (by omega))).trans ?_ | refine (impl_IsPoint.ap_of (impl_IsPoint.go ht _)).trans ?_ | refine (impl_IsSimple.ap_of (impl_IsSimple.go ht _ (by omega))).trans ?_ | refine (impl_IsRing.ap_of (impl_IsRing.go ht _ (by omega))).trans ?_); (try dsimp only at h ⊢))
   | (simp only [decide_not, Bool.decide_and, decide_true, Bool.and_true, Bool.not_and, beqI] at h ⊢)
   | (exfalso; omega))
def impl_IsSource.Fs : List (Spc env) := [impl_IsFeature.spec]
def impl_IsSource.fin : St eΓ → Option (HL eΓ [.b]) := finR env Try.f85.results.toList [.b]
def impl_IsSource.cut : Nat → Option (List (Lv SC)) := lk [(4, [⟨0, none, false⟩, ⟨8, none, false⟩, ⟨9, none, false⟩, ⟨10, none, false⟩])]
def impl_IsSource.ret (r0 : Bool) : Option (HL eΓ [.b]) := some (r0, ())
def impl_IsSource.p4 (k : Nat) (x9 : Int) (x10 : Int) (x0 : List S29) : Option (HL eΓ [.b]) := evM env impl_IsSource.Fs Try.f85.ntmps impl_IsSource.fin impl_IsSource.cut k [.code (sub_ [1, 1, 0, 1, 0, 0, 0] (bodyOf Try.f85)), .code (sub_ [1, 1, 0, 1, 0, 0, 1] (bodyOf Try.f85)), .lp (sub_ [1, 1, 0, 1, 0, 0] (bodyOf Try.f85)), .blk 0, .code (sub_ [1, 1, 1] (bodyOf Try.f85))] (mkSt [(0, .c (.sl 0)), (8, .c (.sl 0)), (9, .c (.v (.int .i64 x9))), (10, .c (.v (.int .i64 x10)))] [.row .ro 29 (.st .s29) x0])
theorem impl_IsSource.e4 (k : Nat) (x9 : Int) (x10 : Int) (x0 : List S29) : impl_IsSource.p4 (k + 1) x9 x10 x0 = if x10 < x9 then (if 0 ≤ x10 then (if x10 < (x0.length : Int) then (impl_IsFeature.ap k (⟨(rd_T29 x0 x10).f0, (rd_T29 x0 x10).f1, (rd_T29 x0 x10).f2, (rd_T29 x0 x10).f3, (rd_T29 x0 x10).f4⟩ : S29) fun r1 => if (!r1) = true then (impl_IsSource.ret false) else (if x10 > 0 then (if 0 ≤ (wrap64 (x10 - 1)) then (if (wrap64 (x10 - 1)) < (x0.length : Int) then (if ((rd_T29 x0 x10).f0) ≤ ((rd_T29 x0 (wrap64 (x10 - 1))).f0) then (impl_IsSource.ret false) else (impl_IsSource.p4 k x9 (wrap64 (x10 + 1)) x0)) else none) else none) else (impl_IsSource.p4 k x9 (wrap64 (x10 + 1)) x0))) else none) else none) else (impl_IsSource.ret true) := by kernel_rfl
def impl_IsSource.run (k : Nat) (h : HL eΓ [.l 29 (.st .s29)]) : Option (HL eΓ [.b]) := evF env impl_IsSource.Fs Try.f85 impl_IsSource.cut [.l 29 (.st .s29)] [.b] k h
theorem impl_IsSource.ef (k : Nat) (h0 : List S29) : impl_IsSource.run k (h0, ()) = if (h0.length : Int) > 16 then (impl_IsSource.ret false) else (impl_IsSource.p4 k (h0.length : Int) 0 h0) := by kernel_rfl
def impl_IsSource.toH (t : Bool) : HL eΓ [.b] := (t, ())
def impl_IsSource.spec : Spc env := ⟨85, [.l 29 (.st .s29)], [.b], impl_IsSource.run⟩
def impl_IsSource.ap {R : Type} (k : Nat) (h0 : List S29) (K : Bool → Option R) : Option R := (impl_IsSource.run k (h0, ())).bind fun r => K (r.1 : Bool)
theorem impl_IsSource.ap_of {R : Type} {k : Nat} {h0 : List S29} {r0 : Bool} {K : Bool → Option R} (h : impl_IsSource.run k (h0, ()) = some (r0, ())) : impl_IsSource.ap k h0 K = K r0 := by unfold impl_IsSource.ap; rw [h]; rfl
theorem impl_IsSource.snd : Snd env impl_IsSource.spec := evF_snd env_ok (sndC impl_IsFeature.snd (sndN)) (by kernel_rfl) (by kernel_rfl) (by kernel_rfl)
attribute [local irreducible] impl_IsSource.run
theorem impl_IsSource.rt (a0 : Bool) : impl_IsSource.ret a0 = some (impl_IsSource.toH (a0)) := rfl
theorem impl_IsSource.br (n : Nat) : (∀ K, n ≤ K → ∀ (x9 : Int) (x10 : Int) (x0 : List S29) t, impl_IsSource.l0 n x0 x0 x9 x10 = some t → impl_IsSource.p4 K x9 x10 x0 = some (impl_IsSource.toH t)) := by
  induction n using Nat.strongRecOn with
  | _ n ih =>
  intro K hK x9 x10 x0 t h
  all_goals (rcases n with _ | k)
  all_goals (try (exact nos h))
  all_goals (obtain ⟨K, rfl⟩ : ∃ q, K = q + 1 := ⟨K - 1, by omega⟩)
  all_goals (first | rw [impl_IsSource.e4])
  all_goals (simp only [impl_IsSource.l0] at h)
  repeat' (with_reducible first
   | exact nos h
   | (cases some_inj h; exact impl_IsSource.rt _)
   | exact (ih _ (by omega)) _ (by omega) _ _ _ _ h
   | (simp only [Option.bind_some] at h)
   | (refine ite_by h (fun hc h => ?_) (fun hc h => ?_) <;> (try simp only [nrm] at hc))
   | refine itT ?_ (by first | assumption | omega | (simp only [nrm]; first | done | assumption | omega) | (simp only [nln] at hc ⊢; omega))
   | refine itF ?_ (by first | assumption | omega | (simp only [nrm]; first | done | assumption | omega) | (simp only [nln] at hc ⊢; omega))
   | (refine bind_by h (fun t ht h => ?_); refine (impl_IsFeature.ap_of (impl_IsFeature.go ht _ (by omega))).trans ?_; (try dsimp only at h ⊢))
   | (simp only [decide_not, Bool.decide_and, decide_true, Bool.and_true, Bool.not_and, beqI] at h ⊢)
   | (exfalso; omega))
theorem impl_IsSource.go {k : Nat} {l0 : List S29} {t} (h : impl_IsSource.f k l0 = some t) (K : Nat) (hK : k ≤ K) : impl_IsSource.run K (l0, ()) = some (impl_IsSource.toH t) := by
  rw [impl_IsSource.ef]
  (try dsimp only)
  unfold impl_IsSource.f at h
  repeat' (with_reducible first
   | exact nos h
   | (cases some_inj h; exact impl_IsSource.rt _)
   | exact (impl_IsSource.br _) _ (by omega) _ _ _ _ h
   | (simp only [Option.bind_some] at h)
   | (refine ite_by h (fun hc h => ?_) (fun hc h => ?_) <;> (try simp only [nrm] at hc))
   | refine itT ?_ (by first | assumption | omega | (simp only [nrm]; first | done | assumption | omega) | (simp only [nln] at hc ⊢; omega))
   | refine itF ?_ (by first | assumption | omega | (simp only [nrm]; first | done | assumption | omega) | (simp only [nln] at hc ⊢; omega))
   | (refine bind_by h (fun t ht h => ?_); refine (impl_IsFeature.ap_of (impl_IsFeature.go ht _ (by omega))).trans ?_; (try dsimp only at h ⊢))
   | (simp only [decide_not, Bool.decide_and, decide_true, Bool.and_true, Bool.not_and, beqI] at h ⊢)
   | (exfalso; omega))
def impl_TileBox.Fs : List (Spc env) := [impl_InRange.spec]
def impl_TileBox.cut : Nat → Option (List (Lv SC)) := lk []
def impl_TileBox.ret (r0 : S98) (r1 : Bool) : Option (HL eΓ [.st .s98, .b]) := some (r0, r1, ())
def impl_TileBox.run (k : Nat) (h : HL eΓ [.i .i64]) : Option (HL eΓ [.st .s98, .b]) := evF env impl_TileBox.Fs Try.f98 impl_TileBox.cut [.i .i64] [.st .s98, .b] k h
theorem impl_TileBox.ef (k : Nat) (h0 : Int) : impl_TileBox.run k (h0, ()) = impl_InRange.ap k h0 0 440 fun r1 => if (!r1) = true then (impl_TileBox.ret (⟨(⟨0, 0⟩ : S82), (⟨0, 0⟩ : S82)⟩ : S98) false) else (impl_TileBox.ret (⟨(⟨wrap64 ((Int.tmod h0 21) * 10), wrap64 ((wrap64 (Int.tdiv h0 21)) * 10)⟩ : S82), (⟨(mn (wrap64 ((wrap64 ((Int.tmod h0 21) * 10)) + 10)) 200), (mn (wrap64 ((wrap64 ((wrap64 (Int.tdiv h0 21)) * 10)) + 10)) 200)⟩ : S82)⟩ : S98) true) := by kernel_rfl
def impl_TileBox.toH (t : Int × Int × Int × Int × Bool) : HL eΓ [.st .s98, .b] := ((⟨(⟨t.1, t.2.1⟩ : S82), (⟨t.2.2.1, t.2.2.2.1⟩ : S82)⟩ : S98), t.2.2.2.2, ())
def impl_TileBox.spec : Spc env := ⟨98, [.i .i64], [.st .s98, .b], impl_TileBox.run⟩
def impl_TileBox.ap {R : Type} (k : Nat) (h0 : Int) (K : S98 → Bool → Option R) : Option R := (impl_TileBox.run k (h0, ())).bind fun r => K (r.1 : S98) (r.2.1 : Bool)
theorem impl_TileBox.ap_of {R : Type} {k : Nat} {h0 : Int} {r0 : S98} {r1 : Bool} {K : S98 → Bool → Option R} (h : impl_TileBox.run k (h0, ()) = some (r0, r1, ())) : impl_TileBox.ap k h0 K = K r0 r1 := by unfold impl_TileBox.ap; rw [h]; rfl
theorem impl_TileBox.snd : Snd env impl_TileBox.spec := evF_snd env_ok (sndC impl_InRange.snd (sndN)) (by kernel_rfl) (by kernel_rfl) (by kernel_rfl)
attribute [local irreducible] impl_TileBox.run
theorem impl_TileBox.rt (a0 : Int) (a1 : Int) (a2 : Int) (a3 : Int) (a4 : Bool) : impl_TileBox.ret (⟨(⟨a0, a1⟩ : S82), (⟨a2, a3⟩ : S82)⟩ : S98) a4 = some (impl_TileBox.toH (a0, a1, a2, a3, a4)) := rfl
theorem impl_TileBox.go {a0 : Int} {t} (h : impl_TileBox.f a0 = some t) (K : Nat) : impl_TileBox.run K (a0, ()) = some (impl_TileBox.toH t) := by
  rw [impl_TileBox.ef]
  (try dsimp only)
  unfold impl_TileBox.f at h
  repeat' (with_reducible first
   | exact nos h
   | (cases some_inj h; exact impl_TileBox.rt _ _ _ _ _)
   | (simp only [Option.bind_some] at h)
   | (refine ite_by h (fun hc h => ?_) (fun hc h => ?_) <;> (try simp only [nrm] at hc))
   | refine itT ?_ (by first | assumption | omega | (simp only [nrm]; first | done | assumption | omega) | (simp only [nln] at hc ⊢; omega))
   | refine itF ?_ (by first | assumption | omega | (simp only [nrm]; first | done | assumption | omega) | (simp only [nln] at hc ⊢; omega))
   | (refine bind_by h (fun t ht h => ?_); refine (impl_InRange.ap_of (impl_InRange.go ht _)).trans ?_; (try dsimp only at h ⊢))
   | (simp only [decide_not, Bool.decide_and, decide_true, Bool.and_true, Bool.not_and, beqI] at h ⊢)
   | (exfalso; omega))
def impl_RingSegments.Fs : List (Spc env) := [impl_IsRing.spec, impl_around.spec]
def impl_RingSegments.cut : Nat → Option (List (Lv SC)) := lk []
def impl_RingSegments.ret (r0 : List S85) : Option (HL eΓ [.l 85 (.st .s85)]) := some (r0, ())
def impl_RingSegments.run (k : Nat) (h : HL eΓ [.l 82 (.st .s82)]) : Option (HL eΓ [.l 85 (.st .s85)]) := evF env impl_RingSegments.Fs Try.f127 impl_RingSegments.cut [.l 82 (.st .s82)] [.l 85 (.st .s85)] k h
theorem impl_RingSegments.ef (k : Nat) (h0 : List S82) : impl_RingSegments.run k (h0, ()) = impl_IsRing.ap k h0 fun r1 => if (!r1) = true then (impl_RingSegments.ret ([] : List S85)) else (impl_around.ap k h0 fun r2 => impl_RingSegments.ret r2) := by kernel_rfl
def impl_RingSegments.toH (t : (List (S85))) : HL eΓ [.l 85 (.st .s85)] := (t, ())
def impl_RingSegments.spec : Spc env := ⟨127, [.l 82 (.st .s82)], [.l 85 (.st .s85)], impl_RingSegments.run⟩
def impl_RingSegments.ap {R : Type} (k : Nat) (h0 : List S82) (K : (List S85) → Option R) : Option R := (impl_RingSegments.run k (h0, ())).bind fun r => K (r.1 : List S85)
theorem impl_RingSegments.ap_of {R : Type} {k : Nat} {h0 : List S82} {r0 : List S85} {K : (List S85) → Option R} (h : impl_RingSegments.run k (h0, ()) = some (r0, ())) : impl_RingSegments.ap k h0 K = K r0 := by unfold impl_RingSegments.ap; rw [h]; rfl
theorem impl_RingSegments.snd : Snd env impl_RingSegments.spec := evF_snd env_ok (sndC impl_IsRing.snd (sndC impl_around.snd (sndN))) (by kernel_rfl) (by kernel_rfl) (by kernel_rfl)
attribute [local irreducible] impl_RingSegments.run
theorem impl_RingSegments.rt (a0 : List S85) : impl_RingSegments.ret a0 = some (impl_RingSegments.toH (a0)) := rfl
theorem impl_RingSegments.go {k : Nat} {l0 : List S82} {t} (h : impl_RingSegments.f k l0 = some t) (K : Nat) (hK : k ≤ K) : impl_RingSegments.run K (l0, ()) = some (impl_RingSegments.toH t) := by
  rw [impl_RingSegments.ef]
  (try dsimp only)
  unfold impl_RingSegments.f at h
  repeat' (with_reducible first
   | exact nos h
   | (cases some_inj h; exact impl_RingSegments.rt _)
   | (simp only [Option.bind_some] at h)
   | (refine ite_by h (fun hc h => ?_) (fun hc h => ?_) <;> (try simp only [nrm] at hc))
   | refine itT ?_ (by first | assumption | omega | (simp only [nrm]; first | done | assumption | omega) | (simp only [nln] at hc ⊢; omega))
   | refine itF ?_ (by first | assumption | omega | (simp only [nrm]; first | done | assumption | omega) | (simp only [nln] at hc ⊢; omega))
   | (refine bind_by h (fun t ht h => ?_); (first | refine (impl_IsRing.ap_of (impl_IsRing.go ht _ (by omega))).trans ?_ | refine (impl_around.ap_of (impl_around.go ht _ (by omega))).trans ?_); (try dsimp only at h ⊢))
   | (simp only [decide_not, Bool.decide_and, decide_true, Bool.and_true, Bool.not_and, beqI] at h ⊢)
   | (exfalso; omega))
def impl_PartsOf.Fs : List (Spc env) := [impl_IsFeature.spec, impl_SegmentsOf.spec, impl_RingSegments.spec]
def impl_PartsOf.cut : Nat → Option (List (Lv SC)) := lk []
def impl_PartsOf.ret (r0 : List S85) : Option (HL eΓ [.l 85 (.st .s85)]) := some (r0, ())
def impl_PartsOf.run (k : Nat) (h : HL eΓ [.st .s29]) : Option (HL eΓ [.l 85 (.st .s85)]) := evF env impl_PartsOf.Fs Try.f74 impl_PartsOf.cut [.st .s29] [.l 85 (.st .s85)] k h
theorem impl_PartsOf.ef (k : Nat) (h0 : S29) : impl_PartsOf.run k (h0, ()) = impl_IsFeature.ap k (⟨h0.f0, h0.f1, h0.f2, h0.f3, h0.f4⟩ : S29) fun r1 => if r1 = true then (if h0.f1 = 2 then (impl_SegmentsOf.ap k h0.f4 fun r2 => impl_PartsOf.ret r2) else (if h0.f1 = 3 then (impl_RingSegments.ap k h0.f4 fun r3 => impl_PartsOf.ret r3) else (impl_PartsOf.ret ([] : List S85)))) else (impl_PartsOf.ret ([] : List S85)) := by kernel_rfl
def impl_PartsOf.toH (t : (List (S85))) : HL eΓ [.l 85 (.st .s85)] := (t, ())
def impl_PartsOf.spec : Spc env := ⟨74, [.st .s29], [.l 85 (.st .s85)], impl_PartsOf.run⟩
def impl_PartsOf.ap {R : Type} (k : Nat) (h0 : S29) (K : (List S85) → Option R) : Option R := (impl_PartsOf.run k (h0, ())).bind fun r => K (r.1 : List S85)
theorem impl_PartsOf.ap_of {R : Type} {k : Nat} {h0 : S29} {r0 : List S85} {K : (List S85) → Option R} (h : impl_PartsOf.run k (h0, ()) = some (r0, ())) : impl_PartsOf.ap k h0 K = K r0 := by unfold impl_PartsOf.ap; rw [h]; rfl
theorem impl_PartsOf.snd : Snd env impl_PartsOf.spec := evF_snd env_ok (sndC impl_IsFeature.snd (sndC impl_SegmentsOf.snd (sndC impl_RingSegments.snd (sndN)))) (by kernel_rfl) (by kernel_rfl) (by kernel_rfl)
attribute [local irreducible] impl_PartsOf.run
theorem impl_PartsOf.rt (a0 : List S85) : impl_PartsOf.ret a0 = some (impl_PartsOf.toH (a0)) := rfl
theorem impl_PartsOf.go {k : Nat} {a0_0 : Int} {a0_1 : Int} {a0_2 : Int} {a0_3 : ByteArray} {l0_4 : List S82} {t} (h : impl_PartsOf.f k a0_0 a0_1 a0_2 a0_3 l0_4 = some t) (K : Nat) (hK : k ≤ K) : impl_PartsOf.run K ((⟨a0_0, a0_1, a0_2, a0_3, l0_4⟩ : S29), ()) = some (impl_PartsOf.toH t) := by
  rw [impl_PartsOf.ef]
  (try dsimp only)
  unfold impl_PartsOf.f at h
  repeat' (with_reducible first
   | exact nos h
   | (cases some_inj h; exact impl_PartsOf.rt _)
   | (simp only [Option.bind_some] at h)
   | (refine ite_by h (fun hc h => ?_) (fun hc h => ?_) <;> (try simp only [nrm] at hc))
   | refine itT ?_ (by first | assumption | omega | (simp only [nrm]; first | done | assumption | omega) | (simp only [nln] at hc ⊢; omega))
   | refine itF ?_ (by first | assumption | omega | (simp only [nrm]; first | done | assumption | omega) | (simp only [nln] at hc ⊢; omega))
   | (refine bind_by h (fun t ht h => ?_); (first | refine (impl_IsFeature.ap_of (impl_IsFeature.go ht _ (by omega))).trans ?_ | refine (impl_SegmentsOf.ap_of (impl_SegmentsOf.go ht _ (by omega))).trans ?_ | refine (impl_RingSegments.ap_of (impl_RingSegments.go ht _ (by omega))).trans ?_); (try dsimp only at h ⊢))
   | (simp only [decide_not, Bool.decide_and, decide_true, Bool.and_true, Bool.not_and, beqI] at h ⊢)
   | (exfalso; omega))
def impl_IsBox.Fs : List (Spc env) := [impl_IsPoint.spec]
def impl_IsBox.cut : Nat → Option (List (Lv SC)) := lk []
def impl_IsBox.ret (r0 : Bool) : Option (HL eΓ [.b]) := some (r0, ())
def impl_IsBox.run (k : Nat) (h : HL eΓ [.st .s98]) : Option (HL eΓ [.b]) := evF env impl_IsBox.Fs Try.f160 impl_IsBox.cut [.st .s98] [.b] k h
theorem impl_IsBox.ef (k : Nat) (h0 : S98) : impl_IsBox.run k (h0, ()) = impl_IsPoint.ap k (⟨h0.f0.f0, h0.f0.f1⟩ : S82) fun r1 => if r1 = true then (impl_IsPoint.ap k (⟨h0.f1.f0, h0.f1.f1⟩ : S82) fun r2 => if r2 = true then (if h0.f0.f0 ≤ h0.f1.f0 then (impl_IsBox.ret (decide (h0.f0.f1 ≤ h0.f1.f1))) else (impl_IsBox.ret false)) else (impl_IsBox.ret false)) else (impl_IsBox.ret false) := by kernel_rfl
def impl_IsBox.toH (t : Bool) : HL eΓ [.b] := (t, ())
def impl_IsBox.spec : Spc env := ⟨160, [.st .s98], [.b], impl_IsBox.run⟩
def impl_IsBox.ap {R : Type} (k : Nat) (h0 : S98) (K : Bool → Option R) : Option R := (impl_IsBox.run k (h0, ())).bind fun r => K (r.1 : Bool)
theorem impl_IsBox.ap_of {R : Type} {k : Nat} {h0 : S98} {r0 : Bool} {K : Bool → Option R} (h : impl_IsBox.run k (h0, ()) = some (r0, ())) : impl_IsBox.ap k h0 K = K r0 := by unfold impl_IsBox.ap; rw [h]; rfl
theorem impl_IsBox.snd : Snd env impl_IsBox.spec := evF_snd env_ok (sndC impl_IsPoint.snd (sndN)) (by kernel_rfl) (by kernel_rfl) (by kernel_rfl)
attribute [local irreducible] impl_IsBox.run
theorem impl_IsBox.rt (a0 : Bool) : impl_IsBox.ret a0 = some (impl_IsBox.toH (a0)) := rfl
theorem impl_IsBox.go {a0_0 : Int} {a0_1 : Int} {a0_2 : Int} {a0_3 : Int} {t} (h : impl_IsBox.f a0_0 a0_1 a0_2 a0_3 = some t) (K : Nat) : impl_IsBox.run K ((⟨(⟨a0_0, a0_1⟩ : S82), (⟨a0_2, a0_3⟩ : S82)⟩ : S98), ()) = some (impl_IsBox.toH t) := by
  rw [impl_IsBox.ef]
  (try dsimp only)
  unfold impl_IsBox.f at h
  repeat' (with_reducible first
   | exact nos h
   | (cases some_inj h; exact impl_IsBox.rt _)
   | (simp only [Option.bind_some] at h)
   | (refine ite_by h (fun hc h => ?_) (fun hc h => ?_) <;> (try simp only [nrm] at hc))
   | refine itT ?_ (by first | assumption | omega | (simp only [nrm]; first | done | assumption | omega) | (simp only [nln] at hc ⊢; omega))
   | refine itF ?_ (by first | assumption | omega | (simp only [nrm]; first | done | assumption | omega) | (simp only [nln] at hc ⊢; omega))
   | (refine bind_by h (fun t ht h => ?_); refine (impl_IsPoint.ap_of (impl_IsPoint.go ht _)).trans ?_; (try dsimp only at h ⊢))
   | (simp only [decide_not, Bool.decide_and, decide_true, Bool.and_true, Bool.not_and, beqI] at h ⊢)
   | (exfalso; omega))
def impl_InBox.Fs : List (Spc env) := [impl_IsBox.spec, impl_InRange.spec]
def impl_InBox.cut : Nat → Option (List (Lv SC)) := lk []
def impl_InBox.ret (r0 : Bool) : Option (HL eΓ [.b]) := some (r0, ())
def impl_InBox.run (k : Nat) (h : HL eΓ [.st .s98, .st .s82]) : Option (HL eΓ [.b]) := evF env impl_InBox.Fs Try.f143 impl_InBox.cut [.st .s98, .st .s82] [.b] k h
theorem impl_InBox.ef (k : Nat) (h0 : S98) (h1 : S82) : impl_InBox.run k (h0, h1, ()) = impl_IsBox.ap k (⟨(⟨h0.f0.f0, h0.f0.f1⟩ : S82), (⟨h0.f1.f0, h0.f1.f1⟩ : S82)⟩ : S98) fun r1 => if r1 = true then (impl_InRange.ap k h1.f0 h0.f0.f0 h0.f1.f0 fun r2 => if r2 = true then (impl_InRange.ap k h1.f1 h0.f0.f1 h0.f1.f1 fun r3 => impl_InBox.ret r3) else (impl_InBox.ret false)) else (impl_InBox.ret false) := by kernel_rfl
def impl_InBox.toH (t : Bool) : HL eΓ [.b] := (t, ())
def impl_InBox.spec : Spc env := ⟨143, [.st .s98, .st .s82], [.b], impl_InBox.run⟩
def impl_InBox.ap {R : Type} (k : Nat) (h0 : S98) (h1 : S82) (K : Bool → Option R) : Option R := (impl_InBox.run k (h0, h1, ())).bind fun r => K (r.1 : Bool)
theorem impl_InBox.ap_of {R : Type} {k : Nat} {h0 : S98} {h1 : S82} {r0 : Bool} {K : Bool → Option R} (h : impl_InBox.run k (h0, h1, ()) = some (r0, ())) : impl_InBox.ap k h0 h1 K = K r0 := by unfold impl_InBox.ap; rw [h]; rfl
theorem impl_InBox.snd : Snd env impl_InBox.spec := evF_snd env_ok (sndC impl_IsBox.snd (sndC impl_InRange.snd (sndN))) (by kernel_rfl) (by kernel_rfl) (by kernel_rfl)
attribute [local irreducible] impl_InBox.run
theorem impl_InBox.rt (a0 : Bool) : impl_InBox.ret a0 = some (impl_InBox.toH (a0)) := rfl
theorem impl_InBox.go {a0_0 : Int} {a0_1 : Int} {a0_2 : Int} {a0_3 : Int} {a1_0 : Int} {a1_1 : Int} {t} (h : impl_InBox.f a0_0 a0_1 a0_2 a0_3 a1_0 a1_1 = some t) (K : Nat) : impl_InBox.run K ((⟨(⟨a0_0, a0_1⟩ : S82), (⟨a0_2, a0_3⟩ : S82)⟩ : S98), (⟨a1_0, a1_1⟩ : S82), ()) = some (impl_InBox.toH t) := by
  rw [impl_InBox.ef]
  (try dsimp only)
  unfold impl_InBox.f at h
  repeat' (with_reducible first
   | exact nos h
   | (cases some_inj h; exact impl_InBox.rt _)
   | (simp only [Option.bind_some] at h)
   | (refine ite_by h (fun hc h => ?_) (fun hc h => ?_) <;> (try simp only [nrm] at hc))
   | refine itT ?_ (by first | assumption | omega | (simp only [nrm]; first | done | assumption | omega) | (simp only [nln] at hc ⊢; omega))
   | refine itF ?_ (by first | assumption | omega | (simp only [nrm]; first | done | assumption | omega) | (simp only [nln] at hc ⊢; omega))
   | (refine bind_by h (fun t ht h => ?_); (first | refine (impl_IsBox.ap_of (impl_IsBox.go ht _)).trans ?_ | refine (impl_InRange.ap_of (impl_InRange.go ht _)).trans ?_); (try dsimp only at h ⊢))
   | (simp only [decide_not, Bool.decide_and, decide_true, Bool.and_true, Bool.not_and, beqI] at h ⊢)
   | (exfalso; omega))
def impl_BoxOf.toH (t : Int × Int × Int × Int × Bool) : HL eΓ [.st .s98, .b] := ((⟨(⟨t.1, t.2.1⟩ : S82), (⟨t.2.2.1, t.2.2.2.1⟩ : S82)⟩ : S98), t.2.2.2.2, ())
def impl_BoxOf.run (k : Nat) (h : HL eΓ [.l 82 (.st .s82)]) : Option (HL eΓ [.st .s98, .b]) := (impl_BoxOf.f k (h.1 : List S82)).map impl_BoxOf.toH
def impl_BoxOf.spec : Spc env := ⟨165, [.l 82 (.st .s82)], [.st .s98, .b], impl_BoxOf.run⟩
def impl_BoxOf.ap {R : Type} (k : Nat) (h0 : List S82) (K : S98 → Bool → Option R) : Option R := (impl_BoxOf.run k (h0, ())).bind fun r => K (r.1 : S98) (r.2.1 : Bool)
theorem impl_BoxOf.ap_of {R : Type} {k : Nat} {h0 : List S82} {r0 : S98} {r1 : Bool} {K : S98 → Bool → Option R} (h : impl_BoxOf.run k (h0, ()) = some (r0, r1, ())) : impl_BoxOf.ap k h0 K = K r0 r1 := by unfold impl_BoxOf.ap; rw [h]; rfl
theorem impl_BoxOf.go {k : Nat} {l0 : List S82} {t} (h : impl_BoxOf.f k l0 = some t) (K : Nat) (hk : k ≤ K) : impl_BoxOf.run K (l0, ()) = some (impl_BoxOf.toH t) := by
  show Option.map _ (impl_BoxOf.f K l0) = _
  rw [leo_le (f := fun k => impl_BoxOf.f k l0) (fun k => impl_BoxOf.mono l0 k) hk h]; rfl
theorem impl_BoxOf.snd : Snd env impl_BoxOf.spec := ⟨⟨Try.f165, by kernel_rfl, by kernel_rfl, by kernel_rfl⟩, fun k h r he w us hA => by
  obtain ⟨t, ht, rfl⟩ := Option.map_eq_some_iff.1 (show (impl_BoxOf.f k (h.1 : List S82)).map impl_BoxOf.toH = some r from he)
  match us, hA with
  | [u0], ⟨q0, _⟩ =>
  obtain ⟨A0, c0, e0, l0, g0⟩ := q0
  obtain rfl := List.singleton_inj.1 e0
  refine (impl_BoxOf.calls (w := w) (h := ht) (hr0 := g0) (hc0 := l0)).mono ?_
  rintro e w' ⟨he, hw⟩
  exact ⟨_, he, hw, [.agg #[.int .i64 t.1, .int .i64 t.2.1, .int .i64 t.2.2.1, .int .i64 t.2.2.2.1], .bool t.2.2.2.2], [fun _ => False, fun _ => False], rfl, ⟨⟨#[.int .i64 t.1, .int .i64 t.2.1, .int .i64 t.2.2.1, .int .i64 t.2.2.2.1], rfl, (H98.M _ _ _ _ _).2 ⟨rfl, rfl, rfl, rfl, trivial⟩⟩, rfl, trivial⟩, by simp [DJ]⟩⟩
def impl_common.Fs : List (Spc env) := []
def impl_common.cut : Nat → Option (List (Lv SC)) := lk []
def impl_common.ret (r0 : Int) (r1 : Int) : Option (HL eΓ [.i .i64, .i .i64]) := some (r0, r1, ())
def impl_common.run (k : Nat) (h : HL eΓ [.st .s98, .st .s98]) : Option (HL eΓ [.i .i64, .i .i64]) := evF env impl_common.Fs Try.f159 impl_common.cut [.st .s98, .st .s98] [.i .i64, .i .i64] k h
theorem impl_common.ef (k : Nat) (h0 : S98) (h1 : S98) : impl_common.run k (h0, h1, ()) = impl_common.ret (wrap64 ((mn h0.f1.f0 h1.f1.f0) - (mx h0.f0.f0 h1.f0.f0))) (wrap64 ((mn h0.f1.f1 h1.f1.f1) - (mx h0.f0.f1 h1.f0.f1))) := by kernel_rfl
def impl_common.toH (t : Int × Int) : HL eΓ [.i .i64, .i .i64] := (t.1, t.2, ())
def impl_common.spec : Spc env := ⟨159, [.st .s98, .st .s98], [.i .i64, .i .i64], impl_common.run⟩
def impl_common.ap {R : Type} (k : Nat) (h0 : S98) (h1 : S98) (K : Int → Int → Option R) : Option R := (impl_common.run k (h0, h1, ())).bind fun r => K (r.1 : Int) (r.2.1 : Int)
theorem impl_common.ap_of {R : Type} {k : Nat} {h0 : S98} {h1 : S98} {r0 : Int} {r1 : Int} {K : Int → Int → Option R} (h : impl_common.run k (h0, h1, ()) = some (r0, r1, ())) : impl_common.ap k h0 h1 K = K r0 r1 := by unfold impl_common.ap; rw [h]; rfl
theorem impl_common.snd : Snd env impl_common.spec := evF_snd env_ok (sndN) (by kernel_rfl) (by kernel_rfl) (by kernel_rfl)
attribute [local irreducible] impl_common.run
theorem impl_common.rt (a0 : Int) (a1 : Int) : impl_common.ret a0 a1 = some (impl_common.toH (a0, a1)) := rfl
theorem impl_common.go {a0_0 : Int} {a0_1 : Int} {a0_2 : Int} {a0_3 : Int} {a1_0 : Int} {a1_1 : Int} {a1_2 : Int} {a1_3 : Int} {t} (h : impl_common.f a0_0 a0_1 a0_2 a0_3 a1_0 a1_1 a1_2 a1_3 = some t) (K : Nat) : impl_common.run K ((⟨(⟨a0_0, a0_1⟩ : S82), (⟨a0_2, a0_3⟩ : S82)⟩ : S98), (⟨(⟨a1_0, a1_1⟩ : S82), (⟨a1_2, a1_3⟩ : S82)⟩ : S98), ()) = some (impl_common.toH t) := by
  rw [impl_common.ef]
  (try dsimp only)
  unfold impl_common.f at h
  repeat' (with_reducible first
   | exact nos h
   | (cases some_inj h; exact impl_common.rt _ _)
   | (simp only [Option.bind_some] at h)
   | (refine ite_by h (fun hc h => ?_) (fun hc h => ?_) <;> (try simp only [nrm] at hc))
   | refine itT ?_ (by first | assumption | omega | (simp only [nrm]; first | done | assumption | omega) | (simp only [nln] at hc ⊢; omega))
   | refine itF ?_ (by first | assumption | omega | (simp only [nrm]; first | done | assumption | omega) | (simp only [nln] at hc ⊢; omega))
   | (simp only [decide_not, Bool.decide_and, decide_true, Bool.and_true, Bool.not_and, beqI] at h ⊢)
   | (exfalso; omega))
def impl_BoxesMeet.Fs : List (Spc env) := [impl_common.spec, impl_IsBox.spec]
def impl_BoxesMeet.cut : Nat → Option (List (Lv SC)) := lk []
def impl_BoxesMeet.ret (r0 : Bool) : Option (HL eΓ [.b]) := some (r0, ())
def impl_BoxesMeet.run (k : Nat) (h : HL eΓ [.st .s98, .st .s98]) : Option (HL eΓ [.b]) := evF env impl_BoxesMeet.Fs Try.f166 impl_BoxesMeet.cut [.st .s98, .st .s98] [.b] k h
theorem impl_BoxesMeet.ef (k : Nat) (h0 : S98) (h1 : S98) : impl_BoxesMeet.run k (h0, h1, ()) = impl_common.ap k (⟨(⟨h0.f0.f0, h0.f0.f1⟩ : S82), (⟨h0.f1.f0, h0.f1.f1⟩ : S82)⟩ : S98) (⟨(⟨h1.f0.f0, h1.f0.f1⟩ : S82), (⟨h1.f1.f0, h1.f1.f1⟩ : S82)⟩ : S98) fun r1_0 r1_1 => impl_IsBox.ap k (⟨(⟨h0.f0.f0, h0.f0.f1⟩ : S82), (⟨h0.f1.f0, h0.f1.f1⟩ : S82)⟩ : S98) fun r2 => if r2 = true then (impl_IsBox.ap k (⟨(⟨h1.f0.f0, h1.f0.f1⟩ : S82), (⟨h1.f1.f0, h1.f1.f1⟩ : S82)⟩ : S98) fun r3 => if r3 = true then (if r1_0 ≥ 0 then (impl_BoxesMeet.ret (decide (r1_1 ≥ 0))) else (impl_BoxesMeet.ret false)) else (impl_BoxesMeet.ret false)) else (impl_BoxesMeet.ret false) := by kernel_rfl
def impl_BoxesMeet.toH (t : Bool) : HL eΓ [.b] := (t, ())
def impl_BoxesMeet.spec : Spc env := ⟨166, [.st .s98, .st .s98], [.b], impl_BoxesMeet.run⟩
def impl_BoxesMeet.ap {R : Type} (k : Nat) (h0 : S98) (h1 : S98) (K : Bool → Option R) : Option R := (impl_BoxesMeet.run k (h0, h1, ())).bind fun r => K (r.1 : Bool)
theorem impl_BoxesMeet.ap_of {R : Type} {k : Nat} {h0 : S98} {h1 : S98} {r0 : Bool} {K : Bool → Option R} (h : impl_BoxesMeet.run k (h0, h1, ()) = some (r0, ())) : impl_BoxesMeet.ap k h0 h1 K = K r0 := by unfold impl_BoxesMeet.ap; rw [h]; rfl
theorem impl_BoxesMeet.snd : Snd env impl_BoxesMeet.spec := evF_snd env_ok (sndC impl_common.snd (sndC impl_IsBox.snd (sndN))) (by kernel_rfl) (by kernel_rfl) (by kernel_rfl)
attribute [local irreducible] impl_BoxesMeet.run
theorem impl_BoxesMeet.rt (a0 : Bool) : impl_BoxesMeet.ret a0 = some (impl_BoxesMeet.toH (a0)) := rfl
theorem impl_BoxesMeet.go {a0_0 : Int} {a0_1 : Int} {a0_2 : Int} {a0_3 : Int} {a1_0 : Int} {a1_1 : Int} {a1_2 : Int} {a1_3 : Int} {t} (h : impl_BoxesMeet.f a0_0 a0_1 a0_2 a0_3 a1_0 a1_1 a1_2 a1_3 = some t) (K : Nat) : impl_BoxesMeet.run K ((⟨(⟨a0_0, a0_1⟩ : S82), (⟨a0_2, a0_3⟩ : S82)⟩ : S98), (⟨(⟨a1_0, a1_1⟩ : S82), (⟨a1_2, a1_3⟩ : S82)⟩ : S98), ()) = some (impl_BoxesMeet.toH t) := by
  rw [impl_BoxesMeet.ef]
  (try dsimp only)
  unfold impl_BoxesMeet.f at h
  repeat' (with_reducible first
   | exact nos h
   | (cases some_inj h; exact impl_BoxesMeet.rt _)
   | (simp only [Option.bind_some] at h)
   | (refine ite_by h (fun hc h => ?_) (fun hc h => ?_) <;> (try simp only [nrm] at hc))
   | refine itT ?_ (by first | assumption | omega | (simp only [nrm]; first | done | assumption | omega) | (simp only [nln] at hc ⊢; omega))
   | refine itF ?_ (by first | assumption | omega | (simp only [nrm]; first | done | assumption | omega) | (simp only [nln] at hc ⊢; omega))
   | (refine bind_by h (fun t ht h => ?_); (first | refine (impl_common.ap_of (impl_common.go ht _)).trans ?_ | refine (impl_IsBox.ap_of (impl_IsBox.go ht _)).trans ?_); (try dsimp only at h ⊢))
   | (simp only [decide_not, Bool.decide_and, decide_true, Bool.and_true, Bool.not_and, beqI] at h ⊢)
   | (exfalso; omega))
def impl_MeetsBox.Fs : List (Spc env) := [impl_IsSegment.spec, impl_IsBox.spec, impl_BoxOf.spec, impl_BoxesMeet.spec, impl_SideOf.spec]
def impl_MeetsBox.fin : St eΓ → Option (HL eΓ [.b]) := finR env Try.f144.results.toList [.b]
def impl_MeetsBox.cut : Nat → Option (List (Lv SC)) := lk [(8, [⟨2, none, false⟩, ⟨7, none, false⟩, ⟨8, none, false⟩, ⟨50, none, false⟩, ⟨51, none, false⟩, ⟨52, none, false⟩])]
def impl_MeetsBox.ret (r0 : Bool) : Option (HL eΓ [.b]) := some (r0, ())
def impl_MeetsBox.p8 (k : Nat) (x7 : Int) (x8 : Int) (x51 : Int) (x52 : Int) (b0_0 : Int) (b0_1 : Int) (b0_2 : Int) (b0_3 : Int) (x50 : List S82) : Option (HL eΓ [.b]) := evM env impl_MeetsBox.Fs Try.f144.ntmps impl_MeetsBox.fin impl_MeetsBox.cut k [.code (sub_ [1, 1, 1, 1, 0, 1, 0, 0, 0] (bodyOf Try.f144)), .code (sub_ [1, 1, 1, 1, 0, 1, 0, 0, 1] (bodyOf Try.f144)), .lp (sub_ [1, 1, 1, 1, 0, 1, 0, 0] (bodyOf Try.f144)), .blk 0, .code (sub_ [1, 1, 1, 1, 1] (bodyOf Try.f144))] (mkSt [(2, .c (.ptr 0 0)), (7, .c (.v (.int .i64 x7))), (8, .c (.v (.int .i64 x8))), (50, .c (.sl 1)), (51, .c (.v (.int .i64 x51))), (52, .c (.v (.int .i64 x52)))] [.box 85 [.v (.int .i64 b0_0), .v (.int .i64 b0_1), .v (.int .i64 b0_2), .v (.int .i64 b0_3)], .row .own 82 (.st .s82) x50])
theorem impl_MeetsBox.e8 (k : Nat) (x7 : Int) (x8 : Int) (x51 : Int) (x52 : Int) (b0_0 : Int) (b0_1 : Int) (b0_2 : Int) (b0_3 : Int) (x50 : List S82) : impl_MeetsBox.p8 (k + 1) x7 x8 x51 x52 b0_0 b0_1 b0_2 b0_3 x50 = if x52 < x51 then (if 0 ≤ x52 then (if x52 < (x50.length : Int) then (impl_SideOf.ap k (⟨b0_0, b0_1⟩ : S82) (⟨b0_2, b0_3⟩ : S82) (⟨(rd_T82 x50 x52).f0, (rd_T82 x50 x52).f1⟩ : S82) fun r1 => if r1 = 1 then (impl_MeetsBox.p8 k (wrap64 (x7 + 1)) x8 x51 (wrap64 (x52 + 1)) b0_0 b0_1 b0_2 b0_3 x50) else (if r1 = (-1) then (impl_MeetsBox.p8 k x7 (wrap64 (x8 + 1)) x51 (wrap64 (x52 + 1)) b0_0 b0_1 b0_2 b0_3 x50) else (impl_MeetsBox.p8 k x7 x8 x51 (wrap64 (x52 + 1)) b0_0 b0_1 b0_2 b0_3 x50))) else none) else none) else (if x7 < 4 then (impl_MeetsBox.ret (decide (x8 < 4))) else (impl_MeetsBox.ret false)) := by kernel_rfl
def impl_MeetsBox.run (k : Nat) (h : HL eΓ [.st .s85, .st .s98]) : Option (HL eΓ [.b]) := evF env impl_MeetsBox.Fs Try.f144 impl_MeetsBox.cut [.st .s85, .st .s98] [.b] k h
theorem impl_MeetsBox.ef (k : Nat) (h0 : S85) (h1 : S98) : impl_MeetsBox.run k (h0, h1, ()) = impl_IsSegment.ap k (⟨(⟨h0.f0.f0, h0.f0.f1⟩ : S82), (⟨h0.f1.f0, h0.f1.f1⟩ : S82)⟩ : S85) fun r1 => if (!r1) = true then (impl_MeetsBox.ret false) else (impl_IsBox.ap k (⟨(⟨h1.f0.f0, h1.f0.f1⟩ : S82), (⟨h1.f1.f0, h1.f1.f1⟩ : S82)⟩ : S98) fun r2 => if (!r2) = true then (impl_MeetsBox.ret false) else (impl_BoxOf.ap k ([(⟨h0.f0.f0, h0.f0.f1⟩ : S82), (⟨h0.f1.f0, h0.f1.f1⟩ : S82)] : List S82) fun r3_0 r3_1 => impl_BoxesMeet.ap k (⟨(⟨r3_0.f0.f0, r3_0.f0.f1⟩ : S82), (⟨r3_0.f1.f0, r3_0.f1.f1⟩ : S82)⟩ : S98) (⟨(⟨h1.f0.f0, h1.f0.f1⟩ : S82), (⟨h1.f1.f0, h1.f1.f1⟩ : S82)⟩ : S98) fun r4 => if (!r4) = true then (impl_MeetsBox.ret false) else (impl_MeetsBox.p8 k 0 0 4 0 h0.f0.f0 h0.f0.f1 h0.f1.f0 h0.f1.f1 ([(⟨h1.f0.f0, h1.f0.f1⟩ : S82), (⟨h1.f1.f0, h1.f1.f1⟩ : S82), (⟨h1.f0.f0, h1.f1.f1⟩ : S82), (⟨h1.f1.f0, h1.f0.f1⟩ : S82)] : List S82)))) := by kernel_rfl
def impl_MeetsBox.toH (t : Bool) : HL eΓ [.b] := (t, ())
def impl_MeetsBox.spec : Spc env := ⟨144, [.st .s85, .st .s98], [.b], impl_MeetsBox.run⟩
def impl_MeetsBox.ap {R : Type} (k : Nat) (h0 : S85) (h1 : S98) (K : Bool → Option R) : Option R := (impl_MeetsBox.run k (h0, h1, ())).bind fun r => K (r.1 : Bool)
theorem impl_MeetsBox.ap_of {R : Type} {k : Nat} {h0 : S85} {h1 : S98} {r0 : Bool} {K : Bool → Option R} (h : impl_MeetsBox.run k (h0, h1, ()) = some (r0, ())) : impl_MeetsBox.ap k h0 h1 K = K r0 := by unfold impl_MeetsBox.ap; rw [h]; rfl
theorem impl_MeetsBox.snd : Snd env impl_MeetsBox.spec := evF_snd env_ok (sndC impl_IsSegment.snd (sndC impl_IsBox.snd (sndC impl_BoxOf.snd (sndC impl_BoxesMeet.snd (sndC impl_SideOf.snd (sndN)))))) (by kernel_rfl) (by kernel_rfl) (by kernel_rfl)
attribute [local irreducible] impl_MeetsBox.run
theorem impl_MeetsBox.rt (a0 : Bool) : impl_MeetsBox.ret a0 = some (impl_MeetsBox.toH (a0)) := rfl
theorem impl_MeetsBox.br (n : Nat) : (∀ K, n ≤ K → ∀ (x7 : Int) (x8 : Int) (x51 : Int) (x52 : Int) (b0_0 : Int) (b0_1 : Int) (b0_2 : Int) (b0_3 : Int) (x50 : List S82) t, impl_MeetsBox.l0 n x7 x8 x50 x51 x52 b0_0 b0_1 b0_2 b0_3 = some t → impl_MeetsBox.p8 K x7 x8 x51 x52 b0_0 b0_1 b0_2 b0_3 x50 = some (impl_MeetsBox.toH t)) := by
  induction n using Nat.strongRecOn with
  | _ n ih =>
  intro K hK x7 x8 x51 x52 b0_0 b0_1 b0_2 b0_3 x50 t h
  all_goals (rcases n with _ | k)
  all_goals (try (exact nos h))
  all_goals (obtain ⟨K, rfl⟩ : ∃ q, K = q + 1 := ⟨K - 1, by omega⟩)
  all_goals (first | rw [impl_MeetsBox.e8])
  all_goals (simp only [impl_MeetsBox.l0] at h)
  repeat' (with_reducible first
   | exact nos h
   | (cases some_inj h; exact impl_MeetsBox.rt _)
   | exact (ih _ (by omega)) _ (by omega) _ _ _ _ _ _ _ _ _ _ h
   | ((have q : impl_MeetsBox.j0 k _ _ _ _ _ _ _ _ _ = some _ := h; clear q); rcases k with _ | k <;> simp only [impl_MeetsBox.j0, reduceCtorEq] at h)
   | (simp only [Option.bind_some] at h)
   | (refine ite_by h (fun hc h => ?_) (fun hc h => ?_) <;> (try simp only [nrm] at hc))
   | refine itT ?_ (by first | assumption | omega | (simp only [nrm]; first | done | assumption | omega) | (simp only [nln] at hc ⊢; omega))
   | refine itF ?_ (by first | assumption | omega | (simp only [nrm]; first | done | assumption | omega) | (simp only [nln] at hc ⊢; omega))
   | (refine bind_by h (fun t ht h => ?_); (first | refine (impl_IsSegment.ap_of (impl_IsSegment.go ht _)).trans ?_ | refine (impl_IsBox.ap_of (impl_IsBox.go ht _)).trans ?_ | refine (impl_BoxOf.ap_of (impl_BoxOf.go ht _ (by omega))).trans ?_ | refine (impl_BoxesMeet.ap_of (impl_BoxesMeet.go ht _)).trans ?_ | refine (impl_SideOf.ap_of (impl_SideOf.go ht _)).trans ?_); (try dsimp only at h ⊢))
   | (simp only [decide_not, Bool.decide_and, decide_true, Bool.and_true, Bool.not_and, beqI] at h ⊢)
   | (exfalso; omega))
theorem impl_MeetsBox.go {k : Nat} {a0_0 : Int} {a0_1 : Int} {a0_2 : Int} {a0_3 : Int} {a1_0 : Int} {a1_1 : Int} {a1_2 : Int} {a1_3 : Int} {t} (h : impl_MeetsBox.f k a0_0 a0_1 a0_2 a0_3 a1_0 a1_1 a1_2 a1_3 = some t) (K : Nat) (hK : k ≤ K) : impl_MeetsBox.run K ((⟨(⟨a0_0, a0_1⟩ : S82), (⟨a0_2, a0_3⟩ : S82)⟩ : S85), (⟨(⟨a1_0, a1_1⟩ : S82), (⟨a1_2, a1_3⟩ : S82)⟩ : S98), ()) = some (impl_MeetsBox.toH t) := by
  rw [impl_MeetsBox.ef]
  (try dsimp only)
  unfold impl_MeetsBox.f at h
  repeat' (with_reducible first
   | exact nos h
   | (cases some_inj h; exact impl_MeetsBox.rt _)
   | exact (impl_MeetsBox.br _) _ (by omega) _ _ _ _ _ _ _ _ _ _ h
   | ((have q : impl_MeetsBox.j0 k _ _ _ _ _ _ _ _ _ = some _ := h; clear q); rcases k with _ | k <;> simp only [impl_MeetsBox.j0, reduceCtorEq] at h)
   | (simp only [Option.bind_some] at h)
   | (refine ite_by h (fun hc h => ?_) (fun hc h => ?_) <;> (try simp only [nrm] at hc))
   | refine itT ?_ (by first | assumption | omega | (simp only [nrm]; first | done | assumption | omega) | (simp only [nln] at hc ⊢; omega))
   | refine itF ?_ (by first | assumption | omega | (simp only [nrm]; first | done | assumption | omega) | (simp only [nln] at hc ⊢; omega))
   | (refine bind_by h (fun t ht h => ?_); (first | refine (impl_IsSegment.ap_of (impl_IsSegment.go ht _)).trans ?_ | refine (impl_IsBox.ap_of (impl_IsBox.go ht _)).trans ?_ | refine (impl_BoxOf.ap_of (impl_BoxOf.go ht _ (by omega))).trans ?_ | refine (impl_BoxesMeet.ap_of (impl_BoxesMeet.go ht _)).trans ?_ | refine (impl_SideOf.ap_of (impl_SideOf.go ht _)).trans ?_); (try dsimp only at h ⊢))
   | (simp only [decide_not, Bool.decide_and, decide_true, Bool.and_true, Bool.not_and, beqI] at h ⊢)
   | (exfalso; omega))
def impl_piecesOf.Fs : List (Spc env) := [impl_PartsOf.spec, impl_InBox.spec, impl_MeetsBox.spec]
def impl_piecesOf.fin : St eΓ → Option (HL eΓ [.l 110 (.st .s110)]) := finR env Try.f99.results.toList [.l 110 (.st .s110)]
def impl_piecesOf.cut : Nat → Option (List (Lv SC)) := lk [(5, [⟨2, none, false⟩, ⟨3, none, false⟩, ⟨4, none, false⟩, ⟨7, none, false⟩, ⟨32, none, false⟩, ⟨33, none, false⟩, ⟨34, none, false⟩])]
def impl_piecesOf.ret (r0 : List S110) : Option (HL eΓ [.l 110 (.st .s110)]) := some (r0, ())
def impl_piecesOf.p5 (k : Nat) (x2 : Bool) (x33 : Int) (x34 : Int) (b0_0 : Int) (b0_1 : Int) (b0_2 : Int) (b0_3 : ByteArray) (b1_0 : Int) (b1_1 : Int) (b1_2 : Int) (b1_3 : Int) (x7 : List S110) (x32 : List S85) (b4 : List S82) : Option (HL eΓ [.l 110 (.st .s110)]) := evM env impl_piecesOf.Fs Try.f99.ntmps impl_piecesOf.fin impl_piecesOf.cut k [.code (sub_ [1, 1, 1, 0, 1, 0, 0, 0] (bodyOf Try.f99)), .code (sub_ [1, 1, 1, 0, 1, 0, 0, 1] (bodyOf Try.f99)), .lp (sub_ [1, 1, 1, 0, 1, 0, 0] (bodyOf Try.f99)), .blk 0, .code (sub_ [1, 1, 1, 1] (bodyOf Try.f99))] (mkSt [(2, .c (.v (.bool x2))), (3, .c (.ptr 0 0)), (4, .c (.ptr 1 0)), (7, .c (.sl 2)), (32, .c (.sl 3)), (33, .c (.v (.int .i64 x33))), (34, .c (.v (.int .i64 x34)))] [.box 29 [.v (.int .i64 b0_0), .v (.int .i64 b0_1), .v (.int .i64 b0_2), .v (.string b0_3), .sl 4], .box 98 [.v (.int .i64 b1_0), .v (.int .i64 b1_1), .v (.int .i64 b1_2), .v (.int .i64 b1_3)], .row .own 110 (.st .s110) x7, .row .own 85 (.st .s85) x32, .row .ro 82 (.st .s82) b4])
theorem impl_piecesOf.e5 (k : Nat) (x2 : Bool) (x33 : Int) (x34 : Int) (b0_0 : Int) (b0_1 : Int) (b0_2 : Int) (b0_3 : ByteArray) (b1_0 : Int) (b1_1 : Int) (b1_2 : Int) (b1_3 : Int) (x7 : List S110) (x32 : List S85) (b4 : List S82) : impl_piecesOf.p5 (k + 1) x2 x33 x34 b0_0 b0_1 b0_2 b0_3 b1_0 b1_1 b1_2 b1_3 x7 x32 b4 = if x34 < x33 then (if 0 ≤ x34 then (if x34 < (x32.length : Int) then (if x2 = true then (if (x7.length + 1) * 16 ≤ 140737488355328 then (impl_piecesOf.p5 k x2 x33 (wrap64 (x34 + 1)) b0_0 b0_1 b0_2 b0_3 b1_0 b1_1 b1_2 b1_3 (x7 ++ [(⟨b0_0, x34⟩ : S110)]) x32 b4) else none) else (impl_MeetsBox.ap k (⟨(⟨(rd_T85 x32 x34).f0.f0, (rd_T85 x32 x34).f0.f1⟩ : S82), (⟨(rd_T85 x32 x34).f1.f0, (rd_T85 x32 x34).f1.f1⟩ : S82)⟩ : S85) (⟨(⟨b1_0, b1_1⟩ : S82), (⟨b1_2, b1_3⟩ : S82)⟩ : S98) fun r1 => if r1 = true then (if (x7.length + 1) * 16 ≤ 140737488355328 then (impl_piecesOf.p5 k x2 x33 (wrap64 (x34 + 1)) b0_0 b0_1 b0_2 b0_3 b1_0 b1_1 b1_2 b1_3 (x7 ++ [(⟨b0_0, x34⟩ : S110)]) x32 b4) else none) else (impl_piecesOf.p5 k x2 x33 (wrap64 (x34 + 1)) b0_0 b0_1 b0_2 b0_3 b1_0 b1_1 b1_2 b1_3 x7 x32 b4))) else none) else none) else (impl_piecesOf.ret x7) := by kernel_rfl
def impl_piecesOf.run (k : Nat) (h : HL eΓ [.st .s29, .st .s98, .b]) : Option (HL eΓ [.l 110 (.st .s110)]) := evF env impl_piecesOf.Fs Try.f99 impl_piecesOf.cut [.st .s29, .st .s98, .b] [.l 110 (.st .s110)] k h
theorem impl_piecesOf.ef (k : Nat) (h0 : S29) (h1 : S98) (h2 : Bool) : impl_piecesOf.run k (h0, h1, h2, ()) = if h0.f1 = 1 then (if h2 = true then (impl_PartsOf.ap k (⟨h0.f0, h0.f1, h0.f2, h0.f3, h0.f4⟩ : S29) fun r1 => impl_piecesOf.p5 k h2 (r1.length : Int) 0 h0.f0 h0.f1 h0.f2 h0.f3 h1.f0.f0 h1.f0.f1 h1.f1.f0 h1.f1.f1 ([(⟨h0.f0, 0⟩ : S110)] : List S110) r1 h0.f4) else (if 0 < (h0.f4.length : Int) then (impl_InBox.ap k (⟨(⟨h1.f0.f0, h1.f0.f1⟩ : S82), (⟨h1.f1.f0, h1.f1.f1⟩ : S82)⟩ : S98) (⟨(rd_T82 h0.f4 0).f0, (rd_T82 h0.f4 0).f1⟩ : S82) fun r2 => if r2 = true then (impl_PartsOf.ap k (⟨h0.f0, h0.f1, h0.f2, h0.f3, h0.f4⟩ : S29) fun r3 => impl_piecesOf.p5 k h2 (r3.length : Int) 0 h0.f0 h0.f1 h0.f2 h0.f3 h1.f0.f0 h1.f0.f1 h1.f1.f0 h1.f1.f1 ([(⟨h0.f0, 0⟩ : S110)] : List S110) r3 h0.f4) else (impl_PartsOf.ap k (⟨h0.f0, h0.f1, h0.f2, h0.f3, h0.f4⟩ : S29) fun r4 => impl_piecesOf.p5 k h2 (r4.length : Int) 0 h0.f0 h0.f1 h0.f2 h0.f3 h1.f0.f0 h1.f0.f1 h1.f1.f0 h1.f1.f1 ([] : List S110) r4 h0.f4)) else none)) else (impl_PartsOf.ap k (⟨h0.f0, h0.f1, h0.f2, h0.f3, h0.f4⟩ : S29) fun r5 => impl_piecesOf.p5 k h2 (r5.length : Int) 0 h0.f0 h0.f1 h0.f2 h0.f3 h1.f0.f0 h1.f0.f1 h1.f1.f0 h1.f1.f1 ([] : List S110) r5 h0.f4) := by kernel_rfl
def impl_piecesOf.toH (t : (List (S110))) : HL eΓ [.l 110 (.st .s110)] := (t, ())
def impl_piecesOf.spec : Spc env := ⟨99, [.st .s29, .st .s98, .b], [.l 110 (.st .s110)], impl_piecesOf.run⟩
def impl_piecesOf.ap {R : Type} (k : Nat) (h0 : S29) (h1 : S98) (h2 : Bool) (K : (List S110) → Option R) : Option R := (impl_piecesOf.run k (h0, h1, h2, ())).bind fun r => K (r.1 : List S110)
theorem impl_piecesOf.ap_of {R : Type} {k : Nat} {h0 : S29} {h1 : S98} {h2 : Bool} {r0 : List S110} {K : (List S110) → Option R} (h : impl_piecesOf.run k (h0, h1, h2, ()) = some (r0, ())) : impl_piecesOf.ap k h0 h1 h2 K = K r0 := by unfold impl_piecesOf.ap; rw [h]; rfl
theorem impl_piecesOf.snd : Snd env impl_piecesOf.spec := evF_snd env_ok (sndC impl_PartsOf.snd (sndC impl_InBox.snd (sndC impl_MeetsBox.snd (sndN)))) (by kernel_rfl) (by kernel_rfl) (by kernel_rfl)
attribute [local irreducible] impl_piecesOf.run
theorem impl_piecesOf.rt (a0 : List S110) : impl_piecesOf.ret a0 = some (impl_piecesOf.toH (a0)) := rfl
theorem impl_piecesOf.br (n : Nat) : (∀ K, n ≤ K → ∀ (x2 : Bool) (x33 : Int) (x34 : Int) (b0_0 : Int) (b0_1 : Int) (b0_2 : Int) (b0_3 : ByteArray) (b1_0 : Int) (b1_1 : Int) (b1_2 : Int) (b1_3 : Int) (x7 : List S110) (x32 : List S85) (b4 : List S82) t, impl_piecesOf.l0 n x2 x7 x32 x33 x34 b0_0 b0_1 b0_2 b0_3 b4 b1_0 b1_1 b1_2 b1_3 = some t → impl_piecesOf.p5 K x2 x33 x34 b0_0 b0_1 b0_2 b0_3 b1_0 b1_1 b1_2 b1_3 x7 x32 b4 = some (impl_piecesOf.toH t)) := by
  induction n using Nat.strongRecOn with
  | _ n ih =>
  intro K hK x2 x33 x34 b0_0 b0_1 b0_2 b0_3 b1_0 b1_1 b1_2 b1_3 x7 x32 b4 t h
  all_goals (rcases n with _ | k)
  all_goals (try (exact nos h))
  all_goals (obtain ⟨K, rfl⟩ : ∃ q, K = q + 1 := ⟨K - 1, by omega⟩)
  all_goals (first | rw [impl_piecesOf.e5])
  all_goals (simp only [impl_piecesOf.l0] at h)
  repeat' (with_reducible first
   | exact nos h
   | (cases some_inj h; exact impl_piecesOf.rt _)
   | exact (ih _ (by omega)) _ (by omega) _ _ _ _ _ _ _ _ _ _ _ _ _ _ _ h
   | ((have q : impl_piecesOf.j0 k _ _ _ _ _ _ _ _ _ _ _ _ = some _ := h; clear q); rcases k with _ | k <;> simp only [impl_piecesOf.j0, reduceCtorEq] at h)
   | ((have q : impl_piecesOf.j1 k _ _ _ _ _ _ _ _ _ _ _ = some _ := h; clear q); rcases k with _ | k <;> simp only [impl_piecesOf.j1, reduceCtorEq] at h)
   | (simp only [Option.bind_some] at h)
   | (refine ite_by h (fun hc h => ?_) (fun hc h => ?_) <;> (try simp only [nrm] at hc))
   | refine itT ?_ (by first | assumption | omega | (simp only [nrm]; first | done | assumption | omega) | (simp only [nln] at hc ⊢; omega))
   | refine itF ?_ (by first | assumption | omega | (simp only [nrm]; first | done | assumption | omega) | (simp only [nln] at hc ⊢; omega))
   | (refine bind_by h (fun t ht h => ?_); (first | refine (impl_PartsOf.ap_of (impl_PartsOf.go ht _ (by omega))).trans ?_ | refine (impl_InBox.ap_of (impl_InBox.go ht _)).trans ?_ | refine (impl_MeetsBox.ap_of (impl_MeetsBox.go ht _ (by omega))).trans ?_); (try dsimp only at h ⊢))
   | (simp only [decide_not, Bool.decide_and, decide_true, Bool.and_true, Bool.not_and, beqI] at h ⊢)
   | (exfalso; omega))
theorem impl_piecesOf.go {k : Nat} {a0_0 : Int} {a0_1 : Int} {a0_2 : Int} {a0_3 : ByteArray} {l0_4 : List S82} {a1_0 : Int} {a1_1 : Int} {a1_2 : Int} {a1_3 : Int} {a2 : Bool} {t} (h : impl_piecesOf.f k a0_0 a0_1 a0_2 a0_3 l0_4 a1_0 a1_1 a1_2 a1_3 a2 = some t) (K : Nat) (hK : k ≤ K) : impl_piecesOf.run K ((⟨a0_0, a0_1, a0_2, a0_3, l0_4⟩ : S29), (⟨(⟨a1_0, a1_1⟩ : S82), (⟨a1_2, a1_3⟩ : S82)⟩ : S98), a2, ()) = some (impl_piecesOf.toH t) := by
  rw [impl_piecesOf.ef]
  (try dsimp only)
  unfold impl_piecesOf.f at h
  repeat' (with_reducible first
   | exact nos h
   | (cases some_inj h; exact impl_piecesOf.rt _)
   | exact (impl_piecesOf.br _) _ (by omega) _ _ _ _ _ _ _ _ _ _ _ _ _ _ _ h
   | ((have q : impl_piecesOf.j0 k _ _ _ _ _ _ _ _ _ _ _ _ = some _ := h; clear q); rcases k with _ | k <;> simp only [impl_piecesOf.j0, reduceCtorEq] at h)
   | ((have q : impl_piecesOf.j1 k _ _ _ _ _ _ _ _ _ _ _ = some _ := h; clear q); rcases k with _ | k <;> simp only [impl_piecesOf.j1, reduceCtorEq] at h)
   | (simp only [Option.bind_some] at h)
   | (refine ite_by h (fun hc h => ?_) (fun hc h => ?_) <;> (try simp only [nrm] at hc))
   | refine itT ?_ (by first | assumption | omega | (simp only [nrm]; first | done | assumption | omega) | (simp only [nln] at hc ⊢; omega))
   | refine itF ?_ (by first | assumption | omega | (simp only [nrm]; first | done | assumption | omega) | (simp only [nln] at hc ⊢; omega))
   | (refine bind_by h (fun t ht h => ?_); (first | refine (impl_PartsOf.ap_of (impl_PartsOf.go ht _ (by omega))).trans ?_ | refine (impl_InBox.ap_of (impl_InBox.go ht _)).trans ?_ | refine (impl_MeetsBox.ap_of (impl_MeetsBox.go ht _ (by omega))).trans ?_); (try dsimp only at h ⊢))
   | (simp only [decide_not, Bool.decide_and, decide_true, Bool.and_true, Bool.not_and, beqI] at h ⊢)
   | (exfalso; omega))
def impl_PiecesIn.Fs : List (Spc env) := [impl_TileBox.spec, impl_IsSource.spec, impl_piecesOf.spec]
def impl_PiecesIn.fin : St eΓ → Option (HL eΓ [.l 110 (.st .s110)]) := finR env Try.f53.results.toList [.l 110 (.st .s110)]
def impl_PiecesIn.cut : Nat → Option (List (Lv SC)) := lk [(6, [⟨5, none, false⟩, ⟨6, none, false⟩, ⟨24, none, false⟩, ⟨25, none, false⟩, ⟨26, none, false⟩])]
def impl_PiecesIn.ret (r0 : List S110) : Option (HL eΓ [.l 110 (.st .s110)]) := some (r0, ())
def impl_PiecesIn.p6 (k : Nat) (x25 : Int) (x26 : Int) (x5 : List S110) (b1_0 : Int) (b1_1 : Int) (b1_2 : Int) (b1_3 : Int) (x24 : List S29) : Option (HL eΓ [.l 110 (.st .s110)]) := evM env impl_PiecesIn.Fs Try.f53.ntmps impl_PiecesIn.fin impl_PiecesIn.cut k [.code (sub_ [1, 1, 1, 1, 0, 1, 0, 0, 0] (bodyOf Try.f53)), .code (sub_ [1, 1, 1, 1, 0, 1, 0, 0, 1] (bodyOf Try.f53)), .lp (sub_ [1, 1, 1, 1, 0, 1, 0, 0] (bodyOf Try.f53)), .blk 0, .code (sub_ [1, 1, 1, 1, 1] (bodyOf Try.f53))] (mkSt [(5, .c (.sl 0)), (6, .c (.ptr 1 0)), (24, .c (.sl 2)), (25, .c (.v (.int .i64 x25))), (26, .c (.v (.int .i64 x26)))] [.row .own 110 (.st .s110) x5, .box 98 [.v (.int .i64 b1_0), .v (.int .i64 b1_1), .v (.int .i64 b1_2), .v (.int .i64 b1_3)], .row .ro 29 (.st .s29) x24])
theorem impl_PiecesIn.e6 (k : Nat) (x25 : Int) (x26 : Int) (x5 : List S110) (b1_0 : Int) (b1_1 : Int) (b1_2 : Int) (b1_3 : Int) (x24 : List S29) : impl_PiecesIn.p6 (k + 1) x25 x26 x5 b1_0 b1_1 b1_2 b1_3 x24 = if x26 < x25 then (if 0 ≤ x26 then (if x26 < (x24.length : Int) then (impl_piecesOf.ap k (⟨(rd_T29 x24 x26).f0, (rd_T29 x24 x26).f1, (rd_T29 x24 x26).f2, (rd_T29 x24 x26).f3, (rd_T29 x24 x26).f4⟩ : S29) (⟨(⟨b1_0, b1_1⟩ : S82), (⟨b1_2, b1_3⟩ : S82)⟩ : S98) false fun r1 => if (x5.length + r1.length) * 16 ≤ 140737488355328 then (impl_PiecesIn.p6 k x25 (wrap64 (x26 + 1)) (x5 ++ r1) b1_0 b1_1 b1_2 b1_3 x24) else none) else none) else none) else (impl_PiecesIn.ret x5) := by kernel_rfl
def impl_PiecesIn.run (k : Nat) (h : HL eΓ [.l 29 (.st .s29), .i .i64]) : Option (HL eΓ [.l 110 (.st .s110)]) := evF env impl_PiecesIn.Fs Try.f53 impl_PiecesIn.cut [.l 29 (.st .s29), .i .i64] [.l 110 (.st .s110)] k h
theorem impl_PiecesIn.ef (k : Nat) (h0 : List S29) (h1 : Int) : impl_PiecesIn.run k (h0, h1, ()) = impl_TileBox.ap k h1 fun r1_0 r1_1 => if (!r1_1) = true then (impl_PiecesIn.ret ([] : List S110)) else (impl_IsSource.ap k h0 fun r2 => if (!r2) = true then (impl_PiecesIn.ret ([] : List S110)) else (impl_PiecesIn.p6 k (h0.length : Int) 0 ([] : List S110) r1_0.f0.f0 r1_0.f0.f1 r1_0.f1.f0 r1_0.f1.f1 h0)) := by kernel_rfl
def impl_PiecesIn.toH (t : (List (S110))) : HL eΓ [.l 110 (.st .s110)] := (t, ())
def impl_PiecesIn.spec : Spc env := ⟨53, [.l 29 (.st .s29), .i .i64], [.l 110 (.st .s110)], impl_PiecesIn.run⟩
theorem impl_PiecesIn.snd : Snd env impl_PiecesIn.spec := evF_snd env_ok (sndC impl_TileBox.snd (sndC impl_IsSource.snd (sndC impl_piecesOf.snd (sndN)))) (by kernel_rfl) (by kernel_rfl) (by kernel_rfl)
attribute [local irreducible] impl_PiecesIn.run
theorem impl_PiecesIn.rt (a0 : List S110) : impl_PiecesIn.ret a0 = some (impl_PiecesIn.toH (a0)) := rfl
theorem impl_PiecesIn.br (n : Nat) : (∀ K, n ≤ K → ∀ (x25 : Int) (x26 : Int) (x5 : List S110) (b1_0 : Int) (b1_1 : Int) (b1_2 : Int) (b1_3 : Int) (x24 : List S29) t, impl_PiecesIn.l0 n x5 x24 x25 x26 b1_0 b1_1 b1_2 b1_3 = some t → impl_PiecesIn.p6 K x25 x26 x5 b1_0 b1_1 b1_2 b1_3 x24 = some (impl_PiecesIn.toH t)) := by
  induction n using Nat.strongRecOn with
  | _ n ih =>
  intro K hK x25 x26 x5 b1_0 b1_1 b1_2 b1_3 x24 t h
  all_goals (rcases n with _ | k)
  all_goals (try (exact nos h))
  all_goals (obtain ⟨K, rfl⟩ : ∃ q, K = q + 1 := ⟨K - 1, by omega⟩)
  all_goals (first | rw [impl_PiecesIn.e6])
  all_goals (simp only [impl_PiecesIn.l0] at h)
  repeat' (with_reducible first
   | exact nos h
   | (cases some_inj h; exact impl_PiecesIn.rt _)
   | exact (ih _ (by omega)) _ (by omega) _ _ _ _ _ _ _ _ _ h
   | ((have q : impl_PiecesIn.j0 k _ _ _ _ _ _ _ = some _ := h; clear q); rcases k with _ | k <;> simp only [impl_PiecesIn.j0, reduceCtorEq] at h)
   | (simp only [Option.bind_some] at h)
   | (refine ite_by h (fun hc h => ?_) (fun hc h => ?_) <;> (try simp only [nrm] at hc))
   | refine itT ?_ (by first | assumption | omega | (simp only [nrm]; first | done | assumption | omega) | (simp only [nln] at hc ⊢; omega))
   | refine itF ?_ (by first | assumption | omega | (simp only [nrm]; first | done | assumption | omega) | (simp only [nln] at hc ⊢; omega))
   | (refine bind_by h (fun t ht h => ?_); (first | refine (impl_TileBox.ap_of (impl_TileBox.go ht _)).trans ?_ | refine (impl_IsSource.ap_of (impl_IsSource.go ht _ (by omega))).trans ?_ | refine (impl_piecesOf.ap_of (impl_piecesOf.go ht _ (by omega))).trans ?_); (try dsimp only at h ⊢))
   | (simp only [decide_not, Bool.decide_and, decide_true, Bool.and_true, Bool.not_and, beqI] at h ⊢)
   | (exfalso; omega))
theorem impl_PiecesIn.go {k : Nat} {l0 : List S29} {a1 : Int} {t} (h : impl_PiecesIn.f k l0 a1 = some t) (K : Nat) (hK : k ≤ K) : impl_PiecesIn.run K (l0, a1, ()) = some (impl_PiecesIn.toH t) := by
  rw [impl_PiecesIn.ef]
  (try dsimp only)
  unfold impl_PiecesIn.f at h
  repeat' (with_reducible first
   | exact nos h
   | (cases some_inj h; exact impl_PiecesIn.rt _)
   | exact (impl_PiecesIn.br _) _ (by omega) _ _ _ _ _ _ _ _ _ h
   | ((have q : impl_PiecesIn.j0 k _ _ _ _ _ _ _ = some _ := h; clear q); rcases k with _ | k <;> simp only [impl_PiecesIn.j0, reduceCtorEq] at h)
   | (simp only [Option.bind_some] at h)
   | (refine ite_by h (fun hc h => ?_) (fun hc h => ?_) <;> (try simp only [nrm] at hc))
   | refine itT ?_ (by first | assumption | omega | (simp only [nrm]; first | done | assumption | omega) | (simp only [nln] at hc ⊢; omega))
   | refine itF ?_ (by first | assumption | omega | (simp only [nrm]; first | done | assumption | omega) | (simp only [nln] at hc ⊢; omega))
   | (refine bind_by h (fun t ht h => ?_); (first | refine (impl_TileBox.ap_of (impl_TileBox.go ht _)).trans ?_ | refine (impl_IsSource.ap_of (impl_IsSource.go ht _ (by omega))).trans ?_ | refine (impl_piecesOf.ap_of (impl_piecesOf.go ht _ (by omega))).trans ?_); (try dsimp only at h ⊢))
   | (simp only [decide_not, Bool.decide_and, decide_true, Bool.and_true, Bool.not_and, beqI] at h ⊢)
   | (exfalso; omega))
theorem impl_PiecesIn.calls (k : Nat) (A0 : Option Addr) (c0 : Nat) (l0 : List (S29)) (a1 : Int) (r : List (S110)) (w : World) (hr0 : Kd.C k29 w A0 l0.length l0) (hc0 : l0.length ≤ c0) (h : impl_PiecesIn.f k l0 a1 = some r) :
  Calls Try.prog 53 #[.slice A0 l0.length c0, .int .i64 a1] w fun e w' => ∃ v0_ : Value, e = .returned (v0_) ∧ Kd.R k110 110 w' w.heap.size (fun _ => True) v0_ r ∧ Below w.heap.size w w' := by
  refine (impl_PiecesIn.snd.calls _ _ _ (impl_PiecesIn.go h k (Nat.le_refl k)) w [.slice A0 l0.length c0, .int .i64 a1] ⟨⟨_, _, rfl, hc0, hr0⟩, rfl, trivial⟩).mono ?_
  rintro e w' ⟨v, rfl, hB, vs, oks, rfl, hR, _⟩
  obtain ⟨x0_, vs, o0_, oks, rfl, rfl, m0_, hR⟩ := rmsC hR
  obtain rfl := rmsN hR
  obtain ⟨x0_v, x0_e, x0_R⟩ := m0_
  obtain rfl := List.singleton_inj.1 x0_e
  exact ⟨_, rfl, Kd.R_mono x0_R (fun _ _ => trivial), hB⟩
set_option maxHeartbeats 8000000 in
set_option maxRecDepth 100000 in
theorem laws_FnExactPiecesIn.calls (k : Nat) (A0 : Option Addr) (c0 : Nat) (l0 : List (S24)) (a1 : Int) (r : Bool) (w : World) (hr0 : Kd.C k24 w A0 l0.length l0) (hc0 : l0.length ≤ c0) (h : laws_FnExactPiecesIn.f k l0 a1 = some r) :
  Calls Try.prog 11 #[.slice A0 l0.length c0, .int .i64 a1] w fun e w' => e = .returned (.bool r) ∧ Below w.heap.size w w' := by
 have HR0 := Aside0.mk hr0; have HC0 := Aside0.mk hc0; clear hr0 hc0; have HB := Aside0.mk (Below.refl w.heap.size w); have H : ((laws_szFeatureS.f k l0 1048576).bind fun t534 => (if t534 < 0 then (some true) else ((laws_toFeatureS.f k l0).bind fun t535 => ((spec_PiecesIn.f k t535 a1).bind fun t538 => ((laws_toFeatureS.f k l0).bind fun t541 => ((impl_PiecesIn.f k t541 a1).bind fun t544 => ((laws_eqPieceS.f k t544 t538).bind fun t547 => (if t547 = true then ((laws_toFeatureS.f k l0).bind fun t548 => ((laws_eqFeatureS.f k t541 t548).bind fun t551 => (if t551 = true then ((laws_markFeatureS.f t541 1).bind fun t552 => (if t552 < 0 then (laws_FnExactPiecesIn.j0 k l0 a1 t538 t544 true) else ((laws_eqPieceS.f k t544 t538).bind fun t553 => (laws_FnExactPiecesIn.j0 k l0 a1 t538 t544 (!t553))))) else (some false)))) else (some false))))))))) = some r := h; clear h; replace H := Option.bind_eq_some_iff.mp H; obtain ⟨t534, A30, H⟩ := H; have A3 := Aside0.mk A30; clear A30
 by_cases c4 : t534 < 0
 ·rw [if_pos c4] at H; have c4b0 := decide_eq_true c4; clear c4; obtain rfl := Option.some.inj H
  go_enter Try.func11, Try.ntmps11; go_wp2_with (first | ((with_reducible refine gt (some 15) rfl ?_); refine gc Try.func26 (laws_szFeatureS.calls k _ _ l0 1048576 t534 _ (cz HR0.out) HC0.out A3.out) ?_; rintro e w5 ⟨rfl, hb⟩; refine ⟨_, rfl, ?_⟩; replace HB := Aside0.mk (below_step bz hb); (try clear hb))); go_ret
  exact ⟨ez, bz⟩
 ·rw [if_neg c4] at H; have c4b0 := decide_eq_false c4; clear c4; replace H := Option.bind_eq_some_iff.mp H; obtain ⟨t535, A60, H⟩ := H; have A6 := Aside0.mk A60; clear A60; replace H := Option.bind_eq_some_iff.mp H; obtain ⟨t538, A70, H⟩ := H; have A7 := Aside0.mk A70; clear A70; replace H := Option.bind_eq_some_iff.mp H; obtain ⟨t541, A80, H⟩ := H; have A8 := Aside0.mk A80; clear A80; replace H := Option.bind_eq_some_iff.mp H; obtain ⟨t544, A90, H⟩ := H; have A9 := Aside0.mk A90; clear A90; replace H := Option.bind_eq_some_iff.mp H; obtain ⟨t547, A100, H⟩ := H; have A10 := Aside0.mk A100; clear A100
  by_cases c11 : t547 = true
  ·subst c11; replace H := ift H; replace H := Option.bind_eq_some_iff.mp H; obtain ⟨t548, A120, H⟩ := H; have A12 := Aside0.mk A120; clear A120; replace H := Option.bind_eq_some_iff.mp H; obtain ⟨t551, A130, H⟩ := H; have A13 := Aside0.mk A130; clear A130
   by_cases c14 : t551 = true
   ·subst c14; replace H := ift H; replace H := Option.bind_eq_some_iff.mp H; obtain ⟨t552, A150, H⟩ := H; have A15 := Aside0.mk A150; clear A150; have HC16 := Aside0.mk H; clear H
    go_enter Try.func11, Try.ntmps11
    go_upto_region 14 with (first | ((with_reducible refine gt (some 15) rfl ?_); refine gc Try.func26 (laws_szFeatureS.calls k _ _ l0 1048576 t534 _ (cz HR0.out) HC0.out A3.out) ?_; rintro e w17 ⟨rfl, hb⟩; refine ⟨_, rfl, ?_⟩; replace HB := Aside0.mk (below_step bz hb); (try clear hb)) | ((with_reducible refine gt (some 19) rfl ?_); refine gc Try.func28 (laws_toFeatureS.calls k _ _ l0 t535 _ cz0 HC0.out A6.out) ?_; rintro e w18 ⟨v536, rfl, ho0, hb⟩; refine ⟨_, rfl, ?_⟩; have HO537 := Aside0.mk (Kd.S_lower ho0 (below_size bz)); replace HB := Aside0.mk (below_step bz hb); (try clear hb); (try clear ho0); obtain ⟨Ao19, co19, eo19⟩ := Kd.S_slice HO537.out; subst eo19) | ((with_reducible refine gt (some 21) rfl ?_); refine gc Try.func52 (spec_PiecesIn.calls k _ _ t535 a1 t538 _ (cz (Kd.S_reads' HO537.out).2.2) ((Kd.S_reads' HO537.out).2.1) A7.out) ?_; rintro e w20 ⟨v539, rfl, ho0, hb⟩; refine ⟨_, rfl, ?_⟩; replace HO537 := Aside0.mk (Kd.S_below (by (with_reducible repeat (first | apply Kd.S_alloc | apply Kd.S_drewN | apply Kd.S_drew)); exact HO537.out) hb); have HO540 := Aside0.mk (Kd.R_lower ho0 (below_size bz)); replace HB := Aside0.mk (below_step bz hb); (try clear hb); (try clear ho0)) | ((with_reducible refine gt (some 23) rfl ?_); refine gc Try.func28 (laws_toFeatureS.calls k _ _ l0 t541 _ cz0 HC0.out A8.out) ?_; rintro e w21 ⟨v542, rfl, ho0, hb⟩; refine ⟨_, rfl, ?_⟩; replace HO540 := Aside0.mk (rbz HO540 hb); have HO543 := Aside0.mk (Kd.S_lower (Kd.S_new' ho0 (Kd.S_lt (by (with_reducible repeat (first | apply Kd.S_alloc | apply Kd.S_drewN | apply Kd.S_drew)); exact HO537.out))) (below_size bz)); replace HO537 := Aside0.mk (Kd.S_elder' (by (with_reducible repeat (first | apply Kd.S_alloc | apply Kd.S_drewN | apply Kd.S_drew)); exact HO537.out) (Kd.S_base ho0) hb); replace HB := Aside0.mk (below_step bz hb); (try clear hb); (try clear ho0); obtain ⟨Ao22, co22, eo22⟩ := Kd.S_slice HO543.out; subst eo22) | ((with_reducible refine gt (some 26) rfl ?_); refine gc Try.func53 (impl_PiecesIn.calls k _ _ t541 a1 t544 _ (cz (Kd.S_reads' HO543.out).2.2) ((Kd.S_reads' HO543.out).2.1) A9.out) ?_; rintro e w23 ⟨v545, rfl, ho0, hb⟩; refine ⟨_, rfl, ?_⟩; replace HO537 := Aside0.mk (Kd.S_below (by (with_reducible repeat (first | apply Kd.S_alloc | apply Kd.S_drewN | apply Kd.S_drew)); exact HO537.out) hb); replace HO543 := Aside0.mk (Kd.S_below (by (with_reducible repeat (first | apply Kd.S_alloc | apply Kd.S_drewN | apply Kd.S_drew)); exact HO543.out) hb); have HO546 := Aside0.mk (Kd.R_lower (Kd.R_new' ho0 (Kd.R_lt (hr HO540.out))) (below_size bz)); replace HO540 := Aside0.mk (Kd.R_elder' (hr HO540.out) (Kd.R_base ho0) hb); replace HB := Aside0.mk (below_step bz hb); (try clear hb); (try clear ho0); obtain ⟨Ao24, co24, eo24⟩ := Kd.R_slice HO546.out; subst eo24; obtain ⟨Ao25, co25, eo25⟩ := Kd.R_slice HO540.out; subst eo25) | ((with_reducible refine gt (some 29) rfl ?_); refine gc Try.func49 (laws_eqPieceS.calls k _ _ t544 _ _ t538 true _ (cz (Kd.R_reads' HO546.out).2.2) ((Kd.R_reads' HO546.out).2.1) (cz (Kd.R_reads' HO540.out).2.2) ((Kd.R_reads' HO540.out).2.1) A10.out) ?_; rintro e w26 ⟨rfl, hb⟩; refine ⟨_, rfl, ?_⟩; replace HO537 := Aside0.mk (Kd.S_below (by (with_reducible repeat (first | apply Kd.S_alloc | apply Kd.S_drewN | apply Kd.S_drew)); exact HO537.out) hb); replace HO540 := Aside0.mk (rbz HO540 hb); replace HO543 := Aside0.mk (Kd.S_below (by (with_reducible repeat (first | apply Kd.S_alloc | apply Kd.S_drewN | apply Kd.S_drew)); exact HO543.out) hb); replace HO546 := Aside0.mk (rbz HO546 hb); replace HB := Aside0.mk (below_step bz hb); (try clear hb)) | ((with_reducible refine gt (some 33) rfl ?_); refine gc Try.func28 (laws_toFeatureS.calls k _ _ l0 t548 _ cz0 HC0.out A12.out) ?_; rintro e w27 ⟨v549, rfl, ho0, hb⟩; refine ⟨_, rfl, ?_⟩; replace HO540 := Aside0.mk (rbz HO540 hb); replace HO546 := Aside0.mk (rbz HO546 hb); have HO550 := Aside0.mk (Kd.S_lower (Kd.S_new' (Kd.S_new' ho0 (Kd.S_lt (by (with_reducible repeat (first | apply Kd.S_alloc | apply Kd.S_drewN | apply Kd.S_drew)); exact HO537.out))) (Kd.S_lt (by (with_reducible repeat (first | apply Kd.S_alloc | apply Kd.S_drewN | apply Kd.S_drew)); exact HO543.out))) (below_size bz)); replace HO537 := Aside0.mk (Kd.S_elder' (by (with_reducible repeat (first | apply Kd.S_alloc | apply Kd.S_drewN | apply Kd.S_drew)); exact HO537.out) (Kd.S_base ho0) hb); replace HO543 := Aside0.mk (Kd.S_elder' (by (with_reducible repeat (first | apply Kd.S_alloc | apply Kd.S_drewN | apply Kd.S_drew)); exact HO543.out) (Kd.S_base ho0) hb); replace HB := Aside0.mk (below_step bz hb); (try clear hb); (try clear ho0); obtain ⟨Ao28, co28, eo28⟩ := Kd.S_slice HO550.out; subst eo28) | ((with_reducible refine gt (some 34) rfl ?_); refine gc Try.func31 (laws_eqFeatureS.calls k _ _ t541 _ _ t548 true _ (cz (Kd.S_reads' HO543.out).2.2) ((Kd.S_reads' HO543.out).2.1) (cz (Kd.S_reads' HO550.out).2.2) ((Kd.S_reads' HO550.out).2.1) A13.out) ?_; rintro e w29 ⟨rfl, hb⟩; refine ⟨_, rfl, ?_⟩; replace HO537 := Aside0.mk (Kd.S_below (by (with_reducible repeat (first | apply Kd.S_alloc | apply Kd.S_drewN | apply Kd.S_drew)); exact HO537.out) hb); replace HO540 := Aside0.mk (rbz HO540 hb); replace HO543 := Aside0.mk (Kd.S_below (by (with_reducible repeat (first | apply Kd.S_alloc | apply Kd.S_drewN | apply Kd.S_drew)); exact HO543.out) hb); replace HO546 := Aside0.mk (rbz HO546 hb); replace HO550 := Aside0.mk (Kd.S_below (by (with_reducible repeat (first | apply Kd.S_alloc | apply Kd.S_drewN | apply Kd.S_drew)); exact HO550.out) hb); replace HB := Aside0.mk (below_step bz hb); (try clear hb)) | ((with_reducible refine gt (some 38) rfl ?_); refine gc Try.func32 (laws_markFeatureS.calls _ (.slice Ao22 t541.length co22) t541 1 t552 w _ (by repeat (first | (with_reducible first | exact HB.out | apply below_alloc | apply pw_below_drewN | apply below_drew1) | exact HB.out)) (Kd.R_mono (Kd.R_bound (Kd.S_R HO543.out)) (fun k_ hk_ => hk_.2.2.2)) A15.out) ?_; rintro e w30 ⟨rfl, hb, hkp⟩; refine ⟨_, rfl, ?_⟩; have n1_ := Aside0.mk (Kd.R_mono (ok' := fun k_ => some k_ ≠ (.slice Ao24 t544.length co24 : Value).ownBlock) (Kd.R_keptB (Kd.R_bound HO540.out) hkp (fun k_ hk_ hs_ => typed_ne (by decide) hk_.2.2.2 hs_)) (fun k_ hk_ => by first | exact hk_.1.1 | exact hk_.1.1.2)); have n2_ := Aside0.mk (Kd.R_mono (ok' := fun k_ => some k_ ≠ (.slice Ao25 t538.length co25 : Value).ownBlock) (Kd.R_keptB (Kd.R_bound HO546.out) hkp (fun k_ hk_ hs_ => typed_ne (by decide) hk_.2.2.2 hs_)) (fun k_ hk_ => by first | exact hk_.1.1 | exact hk_.1.1.2)); have n4_ := Aside0.mk (hb); clear HO537; clear HO540; clear HO546; clear HO550; clear HB; clear HO543; have HO540 := n1_; have HO546 := n2_; have HB := n4_; clear n1_ n2_ n4_; (try clear hb); (try clear hkp)))
    (try simp only [Act.put, List.setIfInBounds_toArray, List.set_cons_zero, List.set_cons_succ])
    go_cut [46] (fun v46 wc => ∃ (kq : Nat) (x46_15 : Bool), v46 = .bool x46_15 ∧ Aside0 (laws_FnExactPiecesIn.j0 kq l0 a1 t538 t544 x46_15 = some r) ∧ Aside0 (kq ≤ k) ∧ Aside0 (Kd.R k110 110 wc w.heap.size (fun k_ => some k_ ≠ ((.slice Ao24 t544.length co24) : Value).ownBlock) (.slice Ao25 t538.length co25) t538) ∧ Aside0 (Kd.R k110 110 wc w.heap.size (fun k_ => some k_ ≠ ((.slice Ao25 t538.length co25) : Value).ownBlock) (.slice Ao24 t544.length co24) t544) ∧ Aside0 (Below w.heap.size w wc))
    case first =>
     have H := HC16.out; clear HC16
     by_cases c31 : t552 < 0
     ·rw [if_pos c31] at H; have c31b0 := decide_eq_true c31; clear c31
      (first | rw [c31b0] | (simp only [i64_w, i32_w]; rw [c31b0]) | skip)
      have H' := Aside0.mk H; clear H; go_wp2
      go_meet
      case rel => exact ⟨_, (true), rz, H', ⟨qz⟩, ⟨hr HO540.out⟩, ⟨hr HO546.out⟩, ⟨bz⟩⟩
     ·rw [if_neg c31] at H; have c31b0 := decide_eq_false c31; clear c31
      (first | rw [c31b0] | (simp only [i64_w, i32_w]; rw [c31b0]) | skip)
      replace H := Option.bind_eq_some_iff.mp H; obtain ⟨t553, A320, H⟩ := H; have A32 := Aside0.mk A320; clear A320; have H' := Aside0.mk H; clear H; go_wp2_with (first | (go_at_call 49; (with_reducible refine (laws_eqPieceS.calls k _ _ t544 _ _ t538 t553 _ ?side1 ?side2 ?side3 ?side4 A32.out).mono ?_); (case side1 => repeat (first | exact (Kd.R_reads' HO546.out).2.2 | (with_reducible refine Kd.C_alloc ?_ _) | (with_reducible refine Kd.C_drewN ?_ _) | (with_reducible refine Kd.C_drew ?_))); (case side2 => exact (Kd.R_reads' HO546.out).2.1); (case side3 => repeat (first | exact (Kd.R_reads' HO540.out).2.2 | (with_reducible refine Kd.C_alloc ?_ _) | (with_reducible refine Kd.C_drewN ?_ _) | (with_reducible refine Kd.C_drew ?_))); (case side4 => exact (Kd.R_reads' HO540.out).2.1); rintro e w33 ⟨rfl, hb⟩; replace HO540 := Aside0.mk (rbz HO540 hb); replace HO546 := Aside0.mk (rbz HO546 hb); replace HB := Aside0.mk (below_step bz hb); (try clear hb)))
      go_meet
      case rel => exact ⟨_, (!t553), rz, H', ⟨qz⟩, ⟨hr HO540.out⟩, ⟨hr HO546.out⟩, ⟨bz⟩⟩
    case rest =>
     clear HC16; (try clear c1); (try clear c2); (try clear p2); (try clear c3); (try clear c4); (try clear c4b0); (try clear c5); (try clear c11); (try clear c14); (try clear c26); (try clear c28); (try clear c31); (try clear c31b0); (try clear c32); obtain ⟨kq, x46_15, rfl, HA, HJ15, HO_6, HO_8, HB⟩ := hcut
     cases kq with
     | zero => exact absurd HA.out (by simp [laws_FnExactPiecesIn.j0])
     | succ kj15 =>
      have H := HA.out; clear HA; simp only [laws_FnExactPiecesIn.j0] at H
      by_cases c34 : x46_15 = true
      ·subst c34; replace H := ift H; obtain rfl := Option.some.inj H; go_wp2; go_ret
       exact ⟨ez, bz⟩
      ·replace c34 := Bool.eq_false_iff.mpr c34; subst c34; replace H := iff_ H; replace H := Option.bind_eq_some_iff.mp H; obtain ⟨⟨t554, t555⟩, A350, H⟩ := H; replace H : ((laws_heldPieceS.f kj15 t555 1).bind fun t556 => (if t556 < 0 then (some false) else (if t556 = t554 then ((laws_toFeatureS.f kj15 l0).bind fun t557 => ((impl_PiecesIn.f kj15 t557 a1).bind fun t560 => ((laws_eqPieceS.f kj15 t560 t538).bind fun t563 => (if t563 = true then ((laws_heldPieceS.f kj15 t555 1).bind fun t564 => (if t564 < 0 then (some false) else (if t564 = t554 then (some true) else (some false)))) else (some false))))) else (some false)))) = some r := H; have A35 := Aside0.mk A350; clear A350; replace H := Option.bind_eq_some_iff.mp H; obtain ⟨t556, A360, H⟩ := H; have A36 := Aside0.mk A360; clear A360
       by_cases c37 : t556 < 0
       ·rw [if_pos c37] at H; have c37b0 := decide_eq_true c37; clear c37; obtain rfl := Option.some.inj H; go_wp2_with (first | ((with_reducible refine gt (some 49) rfl ?_); refine gc Try.func50 (laws_markPieceS.calls kj15 (fun k_ => some k_ = (.slice Ao24 t544.length co24 : Value).ownBlock) (.slice Ao24 t544.length co24) t544 1 t554 t555 w _ (by repeat (first | (with_reducible first | exact HB.out | apply below_alloc | apply pw_below_drewN | apply below_drew1) | exact HB.out)) (Kd.R_tight rfl HO_8.out) A35.out) ?_; rintro e w38 ⟨rfl, hy0, hb, hkp⟩; refine ⟨_, rfl, ?_⟩; replace HO_6 := Aside0.mk (Kd.R_mono (ok' := fun k_ => some k_ ≠ (.slice Ao24 t544.length co24 : Value).ownBlock) (Kd.R_keptB (HO_6.out) hkp (fun k_ hk_ hs_ => absurd hs_ (by first | exact hk_ | exact hk_.1.2 | exact hk_.1.1 | exact hk_.1 | exact hk_.2 | exact hk_.1.1.2 | exact hk_))) (fun k_ hk_ => hk_.1)); replace HO_8 := Aside0.mk (Kd.R_reok rfl hy0 (fun k_ e_ => HO_8.out.1 k_ e_)); replace HB := Aside0.mk (hb); (try clear hb); (try clear hkp); (try clear hy0)) | ((with_reducible refine gate_callee (f := 51) rfl ?_); refine gl (some 52) Try.func51 #[.slice Ao24 t555.length co24, .int .i64 1] ?_ (hargs := by (try simp only [List.map_toArray, List.map_cons, List.map_nil]); first | done | (rw [show t555.length = t544.length from (Kd.R_reads' HO_8.out).1.symm] <;> rfl) | rfl | (simp only [List.length_drop, List.length_take]; rfl)); (with_reducible refine (laws_heldPieceS.calls kj15 _ _ t555 1 t556 _ ?side1 ?side2 A36.out).mono ?_); (case side1 => repeat (first | exact (Kd.R_reads' HO_8.out).2.2 | (with_reducible refine Kd.C_alloc ?_ _) | (with_reducible refine Kd.C_drewN ?_ _) | (with_reducible refine Kd.C_drew ?_))); (case side2 => rw [show t555.length = t544.length from (Kd.R_reads' HO_8.out).1.symm]; exact (Kd.R_reads' HO_8.out).2.1); rintro e w' ⟨rfl, ⟨nd, rfl⟩⟩; refine ⟨_, rfl, ?_⟩))
        go_ret
        exact ⟨ez, bz⟩
       ·rw [if_neg c37] at H; have c37b0 := decide_eq_false c37; clear c37
        by_cases c39 : t556 = t554
        ·rw [if_pos c39] at H; have c39b0 : (t556 == t554) = true := beq_iff_eq.mpr c39; have c39b1 : (t556 != t554) = false := bne_eq_false_iff_eq.mpr c39; clear c39; replace H := Option.bind_eq_some_iff.mp H; obtain ⟨t557, A400, H⟩ := H; have A40 := Aside0.mk A400; clear A400; replace H := Option.bind_eq_some_iff.mp H; obtain ⟨t560, A410, H⟩ := H; have A41 := Aside0.mk A410; clear A410; replace H := Option.bind_eq_some_iff.mp H; obtain ⟨t563, A420, H⟩ := H; have A42 := Aside0.mk A420; clear A420
         by_cases c43 : t563 = true
         ·subst c43; replace H := ift H; replace H := Option.bind_eq_some_iff.mp H; obtain ⟨t564, A440, H⟩ := H; have A44 := Aside0.mk A440; clear A440
          by_cases c45 : t564 < 0
          ·rw [if_pos c45] at H; have c45b0 := decide_eq_true c45; clear c45; obtain rfl := Option.some.inj H; go_wp2_with (first | ((with_reducible refine gt (some 49) rfl ?_); refine gc Try.func50 (laws_markPieceS.calls kj15 (fun k_ => some k_ = (.slice Ao24 t544.length co24 : Value).ownBlock) (.slice Ao24 t544.length co24) t544 1 t554 t555 w _ (by repeat (first | (with_reducible first | exact HB.out | apply below_alloc | apply pw_below_drewN | apply below_drew1) | exact HB.out)) (Kd.R_tight rfl HO_8.out) A35.out) ?_; rintro e w46 ⟨rfl, hy0, hb, hkp⟩; refine ⟨_, rfl, ?_⟩; replace HO_6 := Aside0.mk (Kd.R_mono (ok' := fun k_ => some k_ ≠ (.slice Ao24 t544.length co24 : Value).ownBlock) (Kd.R_keptB (HO_6.out) hkp (fun k_ hk_ hs_ => absurd hs_ (by first | exact hk_ | exact hk_.1.2 | exact hk_.1.1 | exact hk_.1 | exact hk_.2 | exact hk_.1.1.2 | exact hk_))) (fun k_ hk_ => hk_.1)); replace HO_8 := Aside0.mk (Kd.R_reok rfl hy0 (fun k_ e_ => HO_8.out.1 k_ e_)); replace HB := Aside0.mk (hb); (try clear hb); (try clear hkp); (try clear hy0)) | ((with_reducible refine gate_callee (f := 51) rfl ?_); refine gl (some 52) Try.func51 #[.slice Ao24 t555.length co24, .int .i64 1] ?_ (hargs := by (try simp only [List.map_toArray, List.map_cons, List.map_nil]); first | done | (rw [show t555.length = t544.length from (Kd.R_reads' HO_8.out).1.symm] <;> rfl) | rfl | (simp only [List.length_drop, List.length_take]; rfl)); (with_reducible refine (laws_heldPieceS.calls kj15 _ _ t555 1 t556 _ ?side1 ?side2 A36.out).mono ?_); (case side1 => repeat (first | exact (Kd.R_reads' HO_8.out).2.2 | (with_reducible refine Kd.C_alloc ?_ _) | (with_reducible refine Kd.C_drewN ?_ _) | (with_reducible refine Kd.C_drew ?_))); (case side2 => rw [show t555.length = t544.length from (Kd.R_reads' HO_8.out).1.symm]; exact (Kd.R_reads' HO_8.out).2.1); rintro e w' ⟨rfl, ⟨nd, rfl⟩⟩; refine ⟨_, rfl, ?_⟩) | ((with_reducible refine gt (some 59) rfl ?_); refine gc Try.func28 (laws_toFeatureS.calls kj15 A0 c0 l0 t557 _ (cz (Kd.C_below HR0.out bz)) HC0.out A40.out) ?_; rintro e w47 ⟨v558, rfl, ho0, hb⟩; refine ⟨_, rfl, ?_⟩; replace HO_6 := Aside0.mk (rbz HO_6 hb); replace HO_8 := Aside0.mk (rbz HO_8 hb); have HO559 := Aside0.mk (Kd.S_lower ho0 (below_size bz)); replace HB := Aside0.mk (below_step bz hb); (try clear hb); (try clear ho0); obtain ⟨Ao48, co48, eo48⟩ := Kd.S_slice HO559.out; subst eo48) | ((with_reducible refine gt (some 61) rfl ?_); refine gc Try.func53 (impl_PiecesIn.calls kj15 _ _ t557 a1 t560 _ (cz (Kd.S_reads' HO559.out).2.2) ((Kd.S_reads' HO559.out).2.1) A41.out) ?_; rintro e w49 ⟨v561, rfl, ho0, hb⟩; refine ⟨_, rfl, ?_⟩; replace HO559 := Aside0.mk (Kd.S_below (by (with_reducible repeat (first | apply Kd.S_alloc | apply Kd.S_drewN | apply Kd.S_drew)); exact HO559.out) hb); have HO562 := Aside0.mk (Kd.R_lower (Kd.R_new' (Kd.R_new' ho0 (Kd.R_lt (hr HO_6.out))) (Kd.R_lt (hr HO_8.out))) (below_size bz)); replace HO_6 := Aside0.mk (Kd.R_elder' (hr HO_6.out) (Kd.R_base ho0) hb); replace HO_8 := Aside0.mk (Kd.R_elder' (hr HO_8.out) (Kd.R_base ho0) hb); replace HB := Aside0.mk (below_step bz hb); (try clear hb); (try clear ho0); obtain ⟨Ao50, co50, eo50⟩ := Kd.R_slice HO562.out; subst eo50) | ((with_reducible refine gt (some 64) rfl ?_); refine gc Try.func49 (laws_eqPieceS.calls kj15 _ _ t560 _ _ t538 true _ (cz (Kd.R_reads' HO562.out).2.2) ((Kd.R_reads' HO562.out).2.1) (cz (Kd.R_reads' HO_6.out).2.2) ((Kd.R_reads' HO_6.out).2.1) A42.out) ?_; rintro e w51 ⟨rfl, hb⟩; refine ⟨_, rfl, ?_⟩; replace HO_6 := Aside0.mk (rbz HO_6 hb); replace HO_8 := Aside0.mk (rbz HO_8 hb); replace HO559 := Aside0.mk (Kd.S_below (by (with_reducible repeat (first | apply Kd.S_alloc | apply Kd.S_drewN | apply Kd.S_drew)); exact HO559.out) hb); replace HO562 := Aside0.mk (rbz HO562 hb); replace HB := Aside0.mk (below_step bz hb); (try clear hb)) | ((with_reducible refine gate_callee (f := 51) rfl ?_); refine gl (some 68) Try.func51 #[.slice Ao24 t555.length co24, .int .i64 1] ?_ (hargs := by (try simp only [List.map_toArray, List.map_cons, List.map_nil]); first | done | (rw [show t555.length = t544.length from (Kd.R_reads' HO_8.out).1.symm] <;> rfl) | rfl | (simp only [List.length_drop, List.length_take]; rfl)); (with_reducible refine (laws_heldPieceS.calls kj15 _ _ t555 1 t564 _ ?side1 ?side2 A44.out).mono ?_); (case side1 => repeat (first | exact (Kd.R_reads' HO_8.out).2.2 | (with_reducible refine Kd.C_alloc ?_ _) | (with_reducible refine Kd.C_drewN ?_ _) | (with_reducible refine Kd.C_drew ?_))); (case side2 => rw [show t555.length = t544.length from (Kd.R_reads' HO_8.out).1.symm]; exact (Kd.R_reads' HO_8.out).2.1); rintro e w' ⟨rfl, ⟨nd, rfl⟩⟩; refine ⟨_, rfl, ?_⟩))
           go_ret
           exact ⟨ez, bz⟩
          ·rw [if_neg c45] at H; have c45b0 := decide_eq_false c45; clear c45
           by_cases c52 : t564 = t554
           ·rw [if_pos c52] at H; have c52b0 : (t564 == t554) = true := beq_iff_eq.mpr c52; have c52b1 : (t564 != t554) = false := bne_eq_false_iff_eq.mpr c52; clear c52; obtain rfl := Option.some.inj H; go_wp2_with (first | ((with_reducible refine gt (some 49) rfl ?_); refine gc Try.func50 (laws_markPieceS.calls kj15 (fun k_ => some k_ = (.slice Ao24 t544.length co24 : Value).ownBlock) (.slice Ao24 t544.length co24) t544 1 t554 t555 w _ (by repeat (first | (with_reducible first | exact HB.out | apply below_alloc | apply pw_below_drewN | apply below_drew1) | exact HB.out)) (Kd.R_tight rfl HO_8.out) A35.out) ?_; rintro e w53 ⟨rfl, hy0, hb, hkp⟩; refine ⟨_, rfl, ?_⟩; replace HO_6 := Aside0.mk (Kd.R_mono (ok' := fun k_ => some k_ ≠ (.slice Ao24 t544.length co24 : Value).ownBlock) (Kd.R_keptB (HO_6.out) hkp (fun k_ hk_ hs_ => absurd hs_ (by first | exact hk_ | exact hk_.1.2 | exact hk_.1.1 | exact hk_.1 | exact hk_.2 | exact hk_.1.1.2 | exact hk_))) (fun k_ hk_ => hk_.1)); replace HO_8 := Aside0.mk (Kd.R_reok rfl hy0 (fun k_ e_ => HO_8.out.1 k_ e_)); replace HB := Aside0.mk (hb); (try clear hb); (try clear hkp); (try clear hy0)) | ((with_reducible refine gate_callee (f := 51) rfl ?_); refine gl (some 52) Try.func51 #[.slice Ao24 t555.length co24, .int .i64 1] ?_ (hargs := by (try simp only [List.map_toArray, List.map_cons, List.map_nil]); first | done | (rw [show t555.length = t544.length from (Kd.R_reads' HO_8.out).1.symm] <;> rfl) | rfl | (simp only [List.length_drop, List.length_take]; rfl)); (with_reducible refine (laws_heldPieceS.calls kj15 _ _ t555 1 t556 _ ?side1 ?side2 A36.out).mono ?_); (case side1 => repeat (first | exact (Kd.R_reads' HO_8.out).2.2 | (with_reducible refine Kd.C_alloc ?_ _) | (with_reducible refine Kd.C_drewN ?_ _) | (with_reducible refine Kd.C_drew ?_))); (case side2 => rw [show t555.length = t544.length from (Kd.R_reads' HO_8.out).1.symm]; exact (Kd.R_reads' HO_8.out).2.1); rintro e w' ⟨rfl, ⟨nd, rfl⟩⟩; refine ⟨_, rfl, ?_⟩) | ((with_reducible refine gt (some 59) rfl ?_); refine gc Try.func28 (laws_toFeatureS.calls kj15 A0 c0 l0 t557 _ (cz (Kd.C_below HR0.out bz)) HC0.out A40.out) ?_; rintro e w54 ⟨v558, rfl, ho0, hb⟩; refine ⟨_, rfl, ?_⟩; replace HO_6 := Aside0.mk (rbz HO_6 hb); replace HO_8 := Aside0.mk (rbz HO_8 hb); have HO559 := Aside0.mk (Kd.S_lower ho0 (below_size bz)); replace HB := Aside0.mk (below_step bz hb); (try clear hb); (try clear ho0); obtain ⟨Ao55, co55, eo55⟩ := Kd.S_slice HO559.out; subst eo55) | ((with_reducible refine gt (some 61) rfl ?_); refine gc Try.func53 (impl_PiecesIn.calls kj15 _ _ t557 a1 t560 _ (cz (Kd.S_reads' HO559.out).2.2) ((Kd.S_reads' HO559.out).2.1) A41.out) ?_; rintro e w56 ⟨v561, rfl, ho0, hb⟩; refine ⟨_, rfl, ?_⟩; replace HO559 := Aside0.mk (Kd.S_below (by (with_reducible repeat (first | apply Kd.S_alloc | apply Kd.S_drewN | apply Kd.S_drew)); exact HO559.out) hb); have HO562 := Aside0.mk (Kd.R_lower (Kd.R_new' (Kd.R_new' ho0 (Kd.R_lt (hr HO_6.out))) (Kd.R_lt (hr HO_8.out))) (below_size bz)); replace HO_6 := Aside0.mk (Kd.R_elder' (hr HO_6.out) (Kd.R_base ho0) hb); replace HO_8 := Aside0.mk (Kd.R_elder' (hr HO_8.out) (Kd.R_base ho0) hb); replace HB := Aside0.mk (below_step bz hb); (try clear hb); (try clear ho0); obtain ⟨Ao57, co57, eo57⟩ := Kd.R_slice HO562.out; subst eo57) | ((with_reducible refine gt (some 64) rfl ?_); refine gc Try.func49 (laws_eqPieceS.calls kj15 _ _ t560 _ _ t538 true _ (cz (Kd.R_reads' HO562.out).2.2) ((Kd.R_reads' HO562.out).2.1) (cz (Kd.R_reads' HO_6.out).2.2) ((Kd.R_reads' HO_6.out).2.1) A42.out) ?_; rintro e w58 ⟨rfl, hb⟩; refine ⟨_, rfl, ?_⟩; replace HO_6 := Aside0.mk (rbz HO_6 hb); replace HO_8 := Aside0.mk (rbz HO_8 hb); replace HO559 := Aside0.mk (Kd.S_below (by (with_reducible repeat (first | apply Kd.S_alloc | apply Kd.S_drewN | apply Kd.S_drew)); exact HO559.out) hb); replace HO562 := Aside0.mk (rbz HO562 hb); replace HB := Aside0.mk (below_step bz hb); (try clear hb)) | ((with_reducible refine gate_callee (f := 51) rfl ?_); refine gl (some 68) Try.func51 #[.slice Ao24 t555.length co24, .int .i64 1] ?_ (hargs := by (try simp only [List.map_toArray, List.map_cons, List.map_nil]); first | done | (rw [show t555.length = t544.length from (Kd.R_reads' HO_8.out).1.symm] <;> rfl) | rfl | (simp only [List.length_drop, List.length_take]; rfl)); (with_reducible refine (laws_heldPieceS.calls kj15 _ _ t555 1 t564 _ ?side1 ?side2 A44.out).mono ?_); (case side1 => repeat (first | exact (Kd.R_reads' HO_8.out).2.2 | (with_reducible refine Kd.C_alloc ?_ _) | (with_reducible refine Kd.C_drewN ?_ _) | (with_reducible refine Kd.C_drew ?_))); (case side2 => rw [show t555.length = t544.length from (Kd.R_reads' HO_8.out).1.symm]; exact (Kd.R_reads' HO_8.out).2.1); rintro e w' ⟨rfl, ⟨nd, rfl⟩⟩; refine ⟨_, rfl, ?_⟩))
            go_ret
            exact ⟨ez, bz⟩
           ·rw [if_neg c52] at H; have c52b0 : (t564 == t554) = false := beq_eq_false_iff_ne.mpr c52; have c52b1 : (t564 != t554) = true := bne_iff_ne.mpr c52; obtain rfl := Option.some.inj H; go_wp2_with (first | ((with_reducible refine gt (some 49) rfl ?_); refine gc Try.func50 (laws_markPieceS.calls kj15 (fun k_ => some k_ = (.slice Ao24 t544.length co24 : Value).ownBlock) (.slice Ao24 t544.length co24) t544 1 t554 t555 w _ (by repeat (first | (with_reducible first | exact HB.out | apply below_alloc | apply pw_below_drewN | apply below_drew1) | exact HB.out)) (Kd.R_tight rfl HO_8.out) A35.out) ?_; rintro e w59 ⟨rfl, hy0, hb, hkp⟩; refine ⟨_, rfl, ?_⟩; replace HO_6 := Aside0.mk (Kd.R_mono (ok' := fun k_ => some k_ ≠ (.slice Ao24 t544.length co24 : Value).ownBlock) (Kd.R_keptB (HO_6.out) hkp (fun k_ hk_ hs_ => absurd hs_ (by first | exact hk_ | exact hk_.1.2 | exact hk_.1.1 | exact hk_.1 | exact hk_.2 | exact hk_.1.1.2 | exact hk_))) (fun k_ hk_ => hk_.1)); replace HO_8 := Aside0.mk (Kd.R_reok rfl hy0 (fun k_ e_ => HO_8.out.1 k_ e_)); replace HB := Aside0.mk (hb); (try clear hb); (try clear hkp); (try clear hy0)) | ((with_reducible refine gate_callee (f := 51) rfl ?_); refine gl (some 52) Try.func51 #[.slice Ao24 t555.length co24, .int .i64 1] ?_ (hargs := by (try simp only [List.map_toArray, List.map_cons, List.map_nil]); first | done | (rw [show t555.length = t544.length from (Kd.R_reads' HO_8.out).1.symm] <;> rfl) | rfl | (simp only [List.length_drop, List.length_take]; rfl)); (with_reducible refine (laws_heldPieceS.calls kj15 _ _ t555 1 t556 _ ?side1 ?side2 A36.out).mono ?_); (case side1 => repeat (first | exact (Kd.R_reads' HO_8.out).2.2 | (with_reducible refine Kd.C_alloc ?_ _) | (with_reducible refine Kd.C_drewN ?_ _) | (with_reducible refine Kd.C_drew ?_))); (case side2 => rw [show t555.length = t544.length from (Kd.R_reads' HO_8.out).1.symm]; exact (Kd.R_reads' HO_8.out).2.1); rintro e w' ⟨rfl, ⟨nd, rfl⟩⟩; refine ⟨_, rfl, ?_⟩) | ((with_reducible refine gt (some 59) rfl ?_); refine gc Try.func28 (laws_toFeatureS.calls kj15 A0 c0 l0 t557 _ (cz (Kd.C_below HR0.out bz)) HC0.out A40.out) ?_; rintro e w60 ⟨v558, rfl, ho0, hb⟩; refine ⟨_, rfl, ?_⟩; replace HO_6 := Aside0.mk (rbz HO_6 hb); replace HO_8 := Aside0.mk (rbz HO_8 hb); have HO559 := Aside0.mk (Kd.S_lower ho0 (below_size bz)); replace HB := Aside0.mk (below_step bz hb); (try clear hb); (try clear ho0); obtain ⟨Ao61, co61, eo61⟩ := Kd.S_slice HO559.out; subst eo61) | ((with_reducible refine gt (some 61) rfl ?_); refine gc Try.func53 (impl_PiecesIn.calls kj15 _ _ t557 a1 t560 _ (cz (Kd.S_reads' HO559.out).2.2) ((Kd.S_reads' HO559.out).2.1) A41.out) ?_; rintro e w62 ⟨v561, rfl, ho0, hb⟩; refine ⟨_, rfl, ?_⟩; replace HO559 := Aside0.mk (Kd.S_below (by (with_reducible repeat (first | apply Kd.S_alloc | apply Kd.S_drewN | apply Kd.S_drew)); exact HO559.out) hb); have HO562 := Aside0.mk (Kd.R_lower (Kd.R_new' (Kd.R_new' ho0 (Kd.R_lt (hr HO_6.out))) (Kd.R_lt (hr HO_8.out))) (below_size bz)); replace HO_6 := Aside0.mk (Kd.R_elder' (hr HO_6.out) (Kd.R_base ho0) hb); replace HO_8 := Aside0.mk (Kd.R_elder' (hr HO_8.out) (Kd.R_base ho0) hb); replace HB := Aside0.mk (below_step bz hb); (try clear hb); (try clear ho0); obtain ⟨Ao63, co63, eo63⟩ := Kd.R_slice HO562.out; subst eo63) | ((with_reducible refine gt (some 64) rfl ?_); refine gc Try.func49 (laws_eqPieceS.calls kj15 _ _ t560 _ _ t538 true _ (cz (Kd.R_reads' HO562.out).2.2) ((Kd.R_reads' HO562.out).2.1) (cz (Kd.R_reads' HO_6.out).2.2) ((Kd.R_reads' HO_6.out).2.1) A42.out) ?_; rintro e w64 ⟨rfl, hb⟩; refine ⟨_, rfl, ?_⟩; replace HO_6 := Aside0.mk (rbz HO_6 hb); replace HO_8 := Aside0.mk (rbz HO_8 hb); replace HO559 := Aside0.mk (Kd.S_below (by (with_reducible repeat (first | apply Kd.S_alloc | apply Kd.S_drewN | apply Kd.S_drew)); exact HO559.out) hb); replace HO562 := Aside0.mk (rbz HO562 hb); replace HB := Aside0.mk (below_step bz hb); (try clear hb)) | ((with_reducible refine gate_callee (f := 51) rfl ?_); refine gl (some 68) Try.func51 #[.slice Ao24 t555.length co24, .int .i64 1] ?_ (hargs := by (try simp only [List.map_toArray, List.map_cons, List.map_nil]); first | done | (rw [show t555.length = t544.length from (Kd.R_reads' HO_8.out).1.symm] <;> rfl) | rfl | (simp only [List.length_drop, List.length_take]; rfl)); (with_reducible refine (laws_heldPieceS.calls kj15 _ _ t555 1 t564 _ ?side1 ?side2 A44.out).mono ?_); (case side1 => repeat (first | exact (Kd.R_reads' HO_8.out).2.2 | (with_reducible refine Kd.C_alloc ?_ _) | (with_reducible refine Kd.C_drewN ?_ _) | (with_reducible refine Kd.C_drew ?_))); (case side2 => rw [show t555.length = t544.length from (Kd.R_reads' HO_8.out).1.symm]; exact (Kd.R_reads' HO_8.out).2.1); rintro e w' ⟨rfl, ⟨nd, rfl⟩⟩; refine ⟨_, rfl, ?_⟩))
            go_ret
            exact ⟨ez, bz⟩
         ·replace c43 := Bool.eq_false_iff.mpr c43; subst c43; replace H := iff_ H; obtain rfl := Option.some.inj H; go_wp2_with (first | ((with_reducible refine gt (some 49) rfl ?_); refine gc Try.func50 (laws_markPieceS.calls kj15 (fun k_ => some k_ = (.slice Ao24 t544.length co24 : Value).ownBlock) (.slice Ao24 t544.length co24) t544 1 t554 t555 w _ (by repeat (first | (with_reducible first | exact HB.out | apply below_alloc | apply pw_below_drewN | apply below_drew1) | exact HB.out)) (Kd.R_tight rfl HO_8.out) A35.out) ?_; rintro e w65 ⟨rfl, hy0, hb, hkp⟩; refine ⟨_, rfl, ?_⟩; replace HO_6 := Aside0.mk (Kd.R_mono (ok' := fun k_ => some k_ ≠ (.slice Ao24 t544.length co24 : Value).ownBlock) (Kd.R_keptB (HO_6.out) hkp (fun k_ hk_ hs_ => absurd hs_ (by first | exact hk_ | exact hk_.1.2 | exact hk_.1.1 | exact hk_.1 | exact hk_.2 | exact hk_.1.1.2 | exact hk_))) (fun k_ hk_ => hk_.1)); replace HO_8 := Aside0.mk (Kd.R_reok rfl hy0 (fun k_ e_ => HO_8.out.1 k_ e_)); replace HB := Aside0.mk (hb); (try clear hb); (try clear hkp); (try clear hy0)) | ((with_reducible refine gate_callee (f := 51) rfl ?_); refine gl (some 52) Try.func51 #[.slice Ao24 t555.length co24, .int .i64 1] ?_ (hargs := by (try simp only [List.map_toArray, List.map_cons, List.map_nil]); first | done | (rw [show t555.length = t544.length from (Kd.R_reads' HO_8.out).1.symm] <;> rfl) | rfl | (simp only [List.length_drop, List.length_take]; rfl)); (with_reducible refine (laws_heldPieceS.calls kj15 _ _ t555 1 t556 _ ?side1 ?side2 A36.out).mono ?_); (case side1 => repeat (first | exact (Kd.R_reads' HO_8.out).2.2 | (with_reducible refine Kd.C_alloc ?_ _) | (with_reducible refine Kd.C_drewN ?_ _) | (with_reducible refine Kd.C_drew ?_))); (case side2 => rw [show t555.length = t544.length from (Kd.R_reads' HO_8.out).1.symm]; exact (Kd.R_reads' HO_8.out).2.1); rintro e w' ⟨rfl, ⟨nd, rfl⟩⟩; refine ⟨_, rfl, ?_⟩) | ((with_reducible refine gt (some 59) rfl ?_); refine gc Try.func28 (laws_toFeatureS.calls kj15 A0 c0 l0 t557 _ (cz (Kd.C_below HR0.out bz)) HC0.out A40.out) ?_; rintro e w66 ⟨v558, rfl, ho0, hb⟩; refine ⟨_, rfl, ?_⟩; replace HO_6 := Aside0.mk (rbz HO_6 hb); replace HO_8 := Aside0.mk (rbz HO_8 hb); have HO559 := Aside0.mk (Kd.S_lower ho0 (below_size bz)); replace HB := Aside0.mk (below_step bz hb); (try clear hb); (try clear ho0); obtain ⟨Ao67, co67, eo67⟩ := Kd.S_slice HO559.out; subst eo67) | ((with_reducible refine gt (some 61) rfl ?_); refine gc Try.func53 (impl_PiecesIn.calls kj15 _ _ t557 a1 t560 _ (cz (Kd.S_reads' HO559.out).2.2) ((Kd.S_reads' HO559.out).2.1) A41.out) ?_; rintro e w68 ⟨v561, rfl, ho0, hb⟩; refine ⟨_, rfl, ?_⟩; replace HO559 := Aside0.mk (Kd.S_below (by (with_reducible repeat (first | apply Kd.S_alloc | apply Kd.S_drewN | apply Kd.S_drew)); exact HO559.out) hb); have HO562 := Aside0.mk (Kd.R_lower (Kd.R_new' (Kd.R_new' ho0 (Kd.R_lt (hr HO_6.out))) (Kd.R_lt (hr HO_8.out))) (below_size bz)); replace HO_6 := Aside0.mk (Kd.R_elder' (hr HO_6.out) (Kd.R_base ho0) hb); replace HO_8 := Aside0.mk (Kd.R_elder' (hr HO_8.out) (Kd.R_base ho0) hb); replace HB := Aside0.mk (below_step bz hb); (try clear hb); (try clear ho0); obtain ⟨Ao69, co69, eo69⟩ := Kd.R_slice HO562.out; subst eo69) | ((with_reducible refine gt (some 64) rfl ?_); refine gc Try.func49 (laws_eqPieceS.calls kj15 _ _ t560 _ _ t538 false _ (cz (Kd.R_reads' HO562.out).2.2) ((Kd.R_reads' HO562.out).2.1) (cz (Kd.R_reads' HO_6.out).2.2) ((Kd.R_reads' HO_6.out).2.1) A42.out) ?_; rintro e w70 ⟨rfl, hb⟩; refine ⟨_, rfl, ?_⟩; replace HO_6 := Aside0.mk (rbz HO_6 hb); replace HO_8 := Aside0.mk (rbz HO_8 hb); replace HO559 := Aside0.mk (Kd.S_below (by (with_reducible repeat (first | apply Kd.S_alloc | apply Kd.S_drewN | apply Kd.S_drew)); exact HO559.out) hb); replace HO562 := Aside0.mk (rbz HO562 hb); replace HB := Aside0.mk (below_step bz hb); (try clear hb)))
          go_ret
          exact ⟨ez, bz⟩
        ·rw [if_neg c39] at H; have c39b0 : (t556 == t554) = false := beq_eq_false_iff_ne.mpr c39; have c39b1 : (t556 != t554) = true := bne_iff_ne.mpr c39; obtain rfl := Option.some.inj H; go_wp2_with (first | ((with_reducible refine gt (some 49) rfl ?_); refine gc Try.func50 (laws_markPieceS.calls kj15 (fun k_ => some k_ = (.slice Ao24 t544.length co24 : Value).ownBlock) (.slice Ao24 t544.length co24) t544 1 t554 t555 w _ (by repeat (first | (with_reducible first | exact HB.out | apply below_alloc | apply pw_below_drewN | apply below_drew1) | exact HB.out)) (Kd.R_tight rfl HO_8.out) A35.out) ?_; rintro e w71 ⟨rfl, hy0, hb, hkp⟩; refine ⟨_, rfl, ?_⟩; replace HO_6 := Aside0.mk (Kd.R_mono (ok' := fun k_ => some k_ ≠ (.slice Ao24 t544.length co24 : Value).ownBlock) (Kd.R_keptB (HO_6.out) hkp (fun k_ hk_ hs_ => absurd hs_ (by first | exact hk_ | exact hk_.1.2 | exact hk_.1.1 | exact hk_.1 | exact hk_.2 | exact hk_.1.1.2 | exact hk_))) (fun k_ hk_ => hk_.1)); replace HO_8 := Aside0.mk (Kd.R_reok rfl hy0 (fun k_ e_ => HO_8.out.1 k_ e_)); replace HB := Aside0.mk (hb); (try clear hb); (try clear hkp); (try clear hy0)) | ((with_reducible refine gate_callee (f := 51) rfl ?_); refine gl (some 52) Try.func51 #[.slice Ao24 t555.length co24, .int .i64 1] ?_ (hargs := by (try simp only [List.map_toArray, List.map_cons, List.map_nil]); first | done | (rw [show t555.length = t544.length from (Kd.R_reads' HO_8.out).1.symm] <;> rfl) | rfl | (simp only [List.length_drop, List.length_take]; rfl)); (with_reducible refine (laws_heldPieceS.calls kj15 _ _ t555 1 t556 _ ?side1 ?side2 A36.out).mono ?_); (case side1 => repeat (first | exact (Kd.R_reads' HO_8.out).2.2 | (with_reducible refine Kd.C_alloc ?_ _) | (with_reducible refine Kd.C_drewN ?_ _) | (with_reducible refine Kd.C_drew ?_))); (case side2 => rw [show t555.length = t544.length from (Kd.R_reads' HO_8.out).1.symm]; exact (Kd.R_reads' HO_8.out).2.1); rintro e w' ⟨rfl, ⟨nd, rfl⟩⟩; refine ⟨_, rfl, ?_⟩))
         go_ret
         exact ⟨ez, bz⟩
   ·replace c14 := Bool.eq_false_iff.mpr c14; subst c14; replace H := iff_ H; obtain rfl := Option.some.inj H
    go_enter Try.func11, Try.ntmps11; go_wp2_with (first | ((with_reducible refine gt (some 15) rfl ?_); refine gc Try.func26 (laws_szFeatureS.calls k _ _ l0 1048576 t534 _ (cz HR0.out) HC0.out A3.out) ?_; rintro e w72 ⟨rfl, hb⟩; refine ⟨_, rfl, ?_⟩; replace HB := Aside0.mk (below_step bz hb); (try clear hb)) | ((with_reducible refine gt (some 19) rfl ?_); refine gc Try.func28 (laws_toFeatureS.calls k _ _ l0 t535 _ cz0 HC0.out A6.out) ?_; rintro e w73 ⟨v536, rfl, ho0, hb⟩; refine ⟨_, rfl, ?_⟩; have HO537 := Aside0.mk (Kd.S_lower ho0 (below_size bz)); replace HB := Aside0.mk (below_step bz hb); (try clear hb); (try clear ho0); obtain ⟨Ao74, co74, eo74⟩ := Kd.S_slice HO537.out; subst eo74) | ((with_reducible refine gt (some 21) rfl ?_); refine gc Try.func52 (spec_PiecesIn.calls k _ _ t535 a1 t538 _ (cz (Kd.S_reads' HO537.out).2.2) ((Kd.S_reads' HO537.out).2.1) A7.out) ?_; rintro e w75 ⟨v539, rfl, ho0, hb⟩; refine ⟨_, rfl, ?_⟩; replace HO537 := Aside0.mk (Kd.S_below (by (with_reducible repeat (first | apply Kd.S_alloc | apply Kd.S_drewN | apply Kd.S_drew)); exact HO537.out) hb); have HO540 := Aside0.mk (Kd.R_lower ho0 (below_size bz)); replace HB := Aside0.mk (below_step bz hb); (try clear hb); (try clear ho0)) | ((with_reducible refine gt (some 23) rfl ?_); refine gc Try.func28 (laws_toFeatureS.calls k _ _ l0 t541 _ cz0 HC0.out A8.out) ?_; rintro e w76 ⟨v542, rfl, ho0, hb⟩; refine ⟨_, rfl, ?_⟩; replace HO540 := Aside0.mk (rbz HO540 hb); have HO543 := Aside0.mk (Kd.S_lower (Kd.S_new' ho0 (Kd.S_lt (by (with_reducible repeat (first | apply Kd.S_alloc | apply Kd.S_drewN | apply Kd.S_drew)); exact HO537.out))) (below_size bz)); replace HO537 := Aside0.mk (Kd.S_elder' (by (with_reducible repeat (first | apply Kd.S_alloc | apply Kd.S_drewN | apply Kd.S_drew)); exact HO537.out) (Kd.S_base ho0) hb); replace HB := Aside0.mk (below_step bz hb); (try clear hb); (try clear ho0); obtain ⟨Ao77, co77, eo77⟩ := Kd.S_slice HO543.out; subst eo77) | ((with_reducible refine gt (some 26) rfl ?_); refine gc Try.func53 (impl_PiecesIn.calls k _ _ t541 a1 t544 _ (cz (Kd.S_reads' HO543.out).2.2) ((Kd.S_reads' HO543.out).2.1) A9.out) ?_; rintro e w78 ⟨v545, rfl, ho0, hb⟩; refine ⟨_, rfl, ?_⟩; replace HO537 := Aside0.mk (Kd.S_below (by (with_reducible repeat (first | apply Kd.S_alloc | apply Kd.S_drewN | apply Kd.S_drew)); exact HO537.out) hb); replace HO543 := Aside0.mk (Kd.S_below (by (with_reducible repeat (first | apply Kd.S_alloc | apply Kd.S_drewN | apply Kd.S_drew)); exact HO543.out) hb); have HO546 := Aside0.mk (Kd.R_lower (Kd.R_new' ho0 (Kd.R_lt (hr HO540.out))) (below_size bz)); replace HO540 := Aside0.mk (Kd.R_elder' (hr HO540.out) (Kd.R_base ho0) hb); replace HB := Aside0.mk (below_step bz hb); (try clear hb); (try clear ho0); obtain ⟨Ao79, co79, eo79⟩ := Kd.R_slice HO546.out; subst eo79; obtain ⟨Ao80, co80, eo80⟩ := Kd.R_slice HO540.out; subst eo80) | ((with_reducible refine gt (some 29) rfl ?_); refine gc Try.func49 (laws_eqPieceS.calls k _ _ t544 _ _ t538 true _ (cz (Kd.R_reads' HO546.out).2.2) ((Kd.R_reads' HO546.out).2.1) (cz (Kd.R_reads' HO540.out).2.2) ((Kd.R_reads' HO540.out).2.1) A10.out) ?_; rintro e w81 ⟨rfl, hb⟩; refine ⟨_, rfl, ?_⟩; replace HO537 := Aside0.mk (Kd.S_below (by (with_reducible repeat (first | apply Kd.S_alloc | apply Kd.S_drewN | apply Kd.S_drew)); exact HO537.out) hb); replace HO540 := Aside0.mk (rbz HO540 hb); replace HO543 := Aside0.mk (Kd.S_below (by (with_reducible repeat (first | apply Kd.S_alloc | apply Kd.S_drewN | apply Kd.S_drew)); exact HO543.out) hb); replace HO546 := Aside0.mk (rbz HO546 hb); replace HB := Aside0.mk (below_step bz hb); (try clear hb)) | ((with_reducible refine gt (some 33) rfl ?_); refine gc Try.func28 (laws_toFeatureS.calls k _ _ l0 t548 _ cz0 HC0.out A12.out) ?_; rintro e w82 ⟨v549, rfl, ho0, hb⟩; refine ⟨_, rfl, ?_⟩; replace HO540 := Aside0.mk (rbz HO540 hb); replace HO546 := Aside0.mk (rbz HO546 hb); have HO550 := Aside0.mk (Kd.S_lower (Kd.S_new' (Kd.S_new' ho0 (Kd.S_lt (by (with_reducible repeat (first | apply Kd.S_alloc | apply Kd.S_drewN | apply Kd.S_drew)); exact HO537.out))) (Kd.S_lt (by (with_reducible repeat (first | apply Kd.S_alloc | apply Kd.S_drewN | apply Kd.S_drew)); exact HO543.out))) (below_size bz)); replace HO537 := Aside0.mk (Kd.S_elder' (by (with_reducible repeat (first | apply Kd.S_alloc | apply Kd.S_drewN | apply Kd.S_drew)); exact HO537.out) (Kd.S_base ho0) hb); replace HO543 := Aside0.mk (Kd.S_elder' (by (with_reducible repeat (first | apply Kd.S_alloc | apply Kd.S_drewN | apply Kd.S_drew)); exact HO543.out) (Kd.S_base ho0) hb); replace HB := Aside0.mk (below_step bz hb); (try clear hb); (try clear ho0); obtain ⟨Ao83, co83, eo83⟩ := Kd.S_slice HO550.out; subst eo83) | ((with_reducible refine gt (some 34) rfl ?_); refine gc Try.func31 (laws_eqFeatureS.calls k _ _ t541 _ _ t548 false _ (cz (Kd.S_reads' HO543.out).2.2) ((Kd.S_reads' HO543.out).2.1) (cz (Kd.S_reads' HO550.out).2.2) ((Kd.S_reads' HO550.out).2.1) A13.out) ?_; rintro e w84 ⟨rfl, hb⟩; refine ⟨_, rfl, ?_⟩; replace HO537 := Aside0.mk (Kd.S_below (by (with_reducible repeat (first | apply Kd.S_alloc | apply Kd.S_drewN | apply Kd.S_drew)); exact HO537.out) hb); replace HO540 := Aside0.mk (rbz HO540 hb); replace HO543 := Aside0.mk (Kd.S_below (by (with_reducible repeat (first | apply Kd.S_alloc | apply Kd.S_drewN | apply Kd.S_drew)); exact HO543.out) hb); replace HO546 := Aside0.mk (rbz HO546 hb); replace HO550 := Aside0.mk (Kd.S_below (by (with_reducible repeat (first | apply Kd.S_alloc | apply Kd.S_drewN | apply Kd.S_drew)); exact HO550.out) hb); replace HB := Aside0.mk (below_step bz hb); (try clear hb)))
    go_ret
    exact ⟨ez, bz⟩
  ·replace c11 := Bool.eq_false_iff.mpr c11; subst c11; replace H := iff_ H; obtain rfl := Option.some.inj H
   go_enter Try.func11, Try.ntmps11; go_wp2_with (first | ((with_reducible refine gt (some 15) rfl ?_); refine gc Try.func26 (laws_szFeatureS.calls k _ _ l0 1048576 t534 _ (cz HR0.out) HC0.out A3.out) ?_; rintro e w85 ⟨rfl, hb⟩; refine ⟨_, rfl, ?_⟩; replace HB := Aside0.mk (below_step bz hb); (try clear hb)) | ((with_reducible refine gt (some 19) rfl ?_); refine gc Try.func28 (laws_toFeatureS.calls k _ _ l0 t535 _ cz0 HC0.out A6.out) ?_; rintro e w86 ⟨v536, rfl, ho0, hb⟩; refine ⟨_, rfl, ?_⟩; have HO537 := Aside0.mk (Kd.S_lower ho0 (below_size bz)); replace HB := Aside0.mk (below_step bz hb); (try clear hb); (try clear ho0); obtain ⟨Ao87, co87, eo87⟩ := Kd.S_slice HO537.out; subst eo87) | ((with_reducible refine gt (some 21) rfl ?_); refine gc Try.func52 (spec_PiecesIn.calls k _ _ t535 a1 t538 _ (cz (Kd.S_reads' HO537.out).2.2) ((Kd.S_reads' HO537.out).2.1) A7.out) ?_; rintro e w88 ⟨v539, rfl, ho0, hb⟩; refine ⟨_, rfl, ?_⟩; replace HO537 := Aside0.mk (Kd.S_below (by (with_reducible repeat (first | apply Kd.S_alloc | apply Kd.S_drewN | apply Kd.S_drew)); exact HO537.out) hb); have HO540 := Aside0.mk (Kd.R_lower ho0 (below_size bz)); replace HB := Aside0.mk (below_step bz hb); (try clear hb); (try clear ho0)) | ((with_reducible refine gt (some 23) rfl ?_); refine gc Try.func28 (laws_toFeatureS.calls k _ _ l0 t541 _ cz0 HC0.out A8.out) ?_; rintro e w89 ⟨v542, rfl, ho0, hb⟩; refine ⟨_, rfl, ?_⟩; replace HO540 := Aside0.mk (rbz HO540 hb); have HO543 := Aside0.mk (Kd.S_lower (Kd.S_new' ho0 (Kd.S_lt (by (with_reducible repeat (first | apply Kd.S_alloc | apply Kd.S_drewN | apply Kd.S_drew)); exact HO537.out))) (below_size bz)); replace HO537 := Aside0.mk (Kd.S_elder' (by (with_reducible repeat (first | apply Kd.S_alloc | apply Kd.S_drewN | apply Kd.S_drew)); exact HO537.out) (Kd.S_base ho0) hb); replace HB := Aside0.mk (below_step bz hb); (try clear hb); (try clear ho0); obtain ⟨Ao90, co90, eo90⟩ := Kd.S_slice HO543.out; subst eo90) | ((with_reducible refine gt (some 26) rfl ?_); refine gc Try.func53 (impl_PiecesIn.calls k _ _ t541 a1 t544 _ (cz (Kd.S_reads' HO543.out).2.2) ((Kd.S_reads' HO543.out).2.1) A9.out) ?_; rintro e w91 ⟨v545, rfl, ho0, hb⟩; refine ⟨_, rfl, ?_⟩; replace HO537 := Aside0.mk (Kd.S_below (by (with_reducible repeat (first | apply Kd.S_alloc | apply Kd.S_drewN | apply Kd.S_drew)); exact HO537.out) hb); replace HO543 := Aside0.mk (Kd.S_below (by (with_reducible repeat (first | apply Kd.S_alloc | apply Kd.S_drewN | apply Kd.S_drew)); exact HO543.out) hb); have HO546 := Aside0.mk (Kd.R_lower (Kd.R_new' ho0 (Kd.R_lt (hr HO540.out))) (below_size bz)); replace HO540 := Aside0.mk (Kd.R_elder' (hr HO540.out) (Kd.R_base ho0) hb); replace HB := Aside0.mk (below_step bz hb); (try clear hb); (try clear ho0); obtain ⟨Ao92, co92, eo92⟩ := Kd.R_slice HO546.out; subst eo92; obtain ⟨Ao93, co93, eo93⟩ := Kd.R_slice HO540.out; subst eo93) | ((with_reducible refine gt (some 29) rfl ?_); refine gc Try.func49 (laws_eqPieceS.calls k _ _ t544 _ _ t538 false _ (cz (Kd.R_reads' HO546.out).2.2) ((Kd.R_reads' HO546.out).2.1) (cz (Kd.R_reads' HO540.out).2.2) ((Kd.R_reads' HO540.out).2.1) A10.out) ?_; rintro e w94 ⟨rfl, hb⟩; refine ⟨_, rfl, ?_⟩; replace HO537 := Aside0.mk (Kd.S_below (by (with_reducible repeat (first | apply Kd.S_alloc | apply Kd.S_drewN | apply Kd.S_drew)); exact HO537.out) hb); replace HO540 := Aside0.mk (rbz HO540 hb); replace HO543 := Aside0.mk (Kd.S_below (by (with_reducible repeat (first | apply Kd.S_alloc | apply Kd.S_drewN | apply Kd.S_drew)); exact HO543.out) hb); replace HO546 := Aside0.mk (rbz HO546 hb); replace HB := Aside0.mk (below_step bz hb); (try clear hb)))
   go_ret
   exact ⟨ez, bz⟩
end
end Go.Proofs.Ytdfehjfmihokpaa.PFnExactPiecesIn
