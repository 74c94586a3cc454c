
-- Written by a program of this session's (evlaw.py).
import Derived.Test.YtellpkihlbbnhaaGreatPFnExactSameElsewherex3
namespace Go.Proofs.YtellpkihlbbnhaaGreat.PFnExactSameElsewhere
open Go.RowKit Go.Proofs.YtellpkihlbbnhaaGreatW.PrintWords Go.Proofs.YtellpkihlbbnhaaGreatW.PrintLast Go.Proofs.YtellpkihlbbnhaaGreatW.PrintMore Go.Proofs.YtellpkihlbbnhaaGreatGeo Go.Proofs.YtellpkihlbbnhaaGreatHand Go.Proofs.YtellpkihlbbnhaaGreatMeet Go.Proofs.YtellpkihlbbnhaaGreatQuiet Go.Proofs.YtellpkihlbbnhaaGreatZ Go.Proofs.YtellpkihlbbnhaaGreatTwo
open Go Go.Proofs.YtellpkihlbbnhaaGreatEv
attribute [local go_sem] max2_int min2_int max_two min_two max_three min_three max_four min_four   -- for this text's walks alone
set_option linter.unusedVariables false
set_option linter.unusedSimpArgs false
set_option linter.unusedSimpArgs false
attribute [local go_sem high] eqA59
set_option linter.unusedVariables false
set_option linter.unusedSimpArgs false
set_option maxRecDepth 100000
noncomputable section
def impl_IsRing.run (k : Nat) (h : HL eΓ [.l 59 (.st .s59)]) : Option (HL eΓ [.b]) := evF env impl_IsRing.Fs Tryz.f126 impl_IsRing.cut [.l 59 (.st .s59)] [.b] k h
theorem impl_IsRing.ef (k : Nat) (h0 : List S59) : impl_IsRing.run k (h0, ()) = if (h0.length : Int) < 3 then (impl_IsRing.ret false) else (if (h0.length : Int) > 10 then (impl_IsRing.ret false) else (impl_around.ap k h0 fun r1 => impl_IsRing.p5 k (r1.length : Int) 0 r1)) := by kernel_rfl
def impl_IsRing.toH (t : Bool) : HL eΓ [.b] := (t, ())
def impl_IsRing.spec : Spc env := ⟨126, [.l 59 (.st .s59)], [.b], impl_IsRing.run⟩
def impl_IsRing.ap {R : Type} (k : Nat) (h0 : List S59) (K : Bool → Option R) : Option R := (impl_IsRing.run k (h0, ())).bind fun r => K (r.1 : Bool)
theorem impl_IsRing.ap_of {R : Type} {k : Nat} {h0 : List S59} {r0 : Bool} {K : Bool → Option R} (h : impl_IsRing.run k (h0, ()) = some (r0, ())) : impl_IsRing.ap k h0 K = K r0 := by unfold impl_IsRing.ap; rw [h]; rfl
theorem impl_IsRing.snd : Snd env impl_IsRing.spec := evF_snd env_ok (sndC impl_around.snd (sndC impl_IsSegment.snd (sndC impl_HowMeet.snd (sndN))))
attribute [local irreducible] impl_IsRing.run
theorem impl_IsRing.rt (a0 : Bool) : impl_IsRing.ret a0 = some (impl_IsRing.toH (a0)) := rfl
theorem impl_IsRing.br (n : Nat) : (∀ K, n ≤ K → ∀ (x18 : Int) (x19 : Int) (x3 : List S149) t, impl_IsRing.l0 n x3 x18 x19 = some t → impl_IsRing.p5 K x18 x19 x3 = some (impl_IsRing.toH t)) ∧ (∀ K, n ≤ K → ∀ (x4 : Int) (x18 : Int) (x19 : Int) (x28 : Int) (x29 : Int) (x3 : List S149) t, impl_IsRing.l1 n x3 x4 x18 x19 x28 x29 = some t → impl_IsRing.p10 K x4 x18 x19 x28 x29 x3 = some (impl_IsRing.toH t)) := by
  induction n using Nat.strongRecOn with
  | _ n ih =>
  refine ⟨fun K hK x18 x19 x3 t h => ?_, fun K hK x4 x18 x19 x28 x29 x3 t h => ?_⟩
  all_goals (rcases n with _ | k)
  all_goals (try (exact nos h))
  all_goals (obtain ⟨K, rfl⟩ : ∃ q, K = q + 1 := ⟨K - 1, by omega⟩)
  all_goals (first | rw [impl_IsRing.e5] | rw [impl_IsRing.e10])
  all_goals (simp only [impl_IsRing.l0, impl_IsRing.l1] at h)
  repeat' (with_reducible first
   | exact nos h
   | (cases some_inj h; exact impl_IsRing.rt _)
   | exact (ih _ (by omega)).1 _ (by omega) _ _ _ _ h
   | exact (ih _ (by omega)).2 _ (by omega) _ _ _ _ _ _ _ h
   | ((have q : impl_IsRing.j0 k _ _ = some _ := h; clear q); rcases k with _ | k <;> simp only [impl_IsRing.j0, reduceCtorEq] at h)
   | ((have q : impl_IsRing.j3 k _ _ _ _ _ _ _ _ _ = some _ := h; clear q); rcases k with _ | k <;> simp only [impl_IsRing.j3, reduceCtorEq] at h)
   | (simp only [Option.bind_some] at h)
   | (refine ite_by h ?_ ?_ <;> (intro hc h; (try simp only [nrm] at hc)))
   | refine itT ?_
   | refine itF ?_
   | (refine bind_by h (fun t ht h => ?_); (first | refine (impl_around.ap_of (impl_around.go ht _ (by omega))).trans ?_ | refine (impl_IsSegment.ap_of (impl_IsSegment.go ht _)).trans ?_ | refine (impl_HowMeet.ap_of (impl_HowMeet.go ht _ (by omega))).trans ?_); (try dsimp only at h ⊢))
   | (simp only [nr2] at h ⊢)
   | (exfalso; omega))
theorem impl_IsRing.go {k : Nat} {l0 : List S59} {t} (h : impl_IsRing.f k l0 = some t) (K : Nat) (hK : k ≤ K) : impl_IsRing.run K (l0, ()) = some (impl_IsRing.toH t) := by
  rw [impl_IsRing.ef]
  (try dsimp only)
  unfold impl_IsRing.f at h
  repeat' (with_reducible first
   | exact nos h
   | (cases some_inj h; exact impl_IsRing.rt _)
   | exact (impl_IsRing.br _).1 _ (by omega) _ _ _ _ h
   | exact (impl_IsRing.br _).2 _ (by omega) _ _ _ _ _ _ _ h
   | ((have q : impl_IsRing.j0 k _ _ = some _ := h; clear q); rcases k with _ | k <;> simp only [impl_IsRing.j0, reduceCtorEq] at h)
   | ((have q : impl_IsRing.j3 k _ _ _ _ _ _ _ _ _ = some _ := h; clear q); rcases k with _ | k <;> simp only [impl_IsRing.j3, reduceCtorEq] at h)
   | (simp only [Option.bind_some] at h)
   | (refine ite_by h ?_ ?_ <;> (intro hc h; (try simp only [nrm] at hc)))
   | refine itT ?_
   | refine itF ?_
   | (refine bind_by h (fun t ht h => ?_); (first | refine (impl_around.ap_of (impl_around.go ht _ (by omega))).trans ?_ | refine (impl_IsSegment.ap_of (impl_IsSegment.go ht _)).trans ?_ | refine (impl_HowMeet.ap_of (impl_HowMeet.go ht _ (by omega))).trans ?_); (try dsimp only at h ⊢))
   | (simp only [nr2] at h ⊢)
   | (exfalso; omega))
def impl_IsLine.Fs : List (Spc env) := [impl_IsPoint.spec]
def impl_IsLine.fin : St eΓ → Option (HL eΓ [.b]) := finR env Tryz.f197.results.toList [.b]
def impl_IsLine.cut : Nat → Option (List (Lv SC)) := lk [(4, [⟨0, none, false⟩, ⟨13, none, false⟩, ⟨14, none, false⟩, ⟨15, none, false⟩])]
def impl_IsLine.ret (r0 : Bool) : Option (HL eΓ [.b]) := some (r0, ())
def impl_IsLine.p4 (k : Nat) (x14 : Int) (x15 : Int) (x0 : List S59) : Option (HL eΓ [.b]) := evM env impl_IsLine.Fs Tryz.f197.ntmps impl_IsLine.fin impl_IsLine.cut k [.code (sub_ [1, 1, 0, 1, 0, 0, 0] (bodyOf Tryz.f197)), .code (sub_ [1, 1, 0, 1, 0, 0, 1] (bodyOf Tryz.f197)), .lp (sub_ [1, 1, 0, 1, 0, 0] (bodyOf Tryz.f197)), .blk 0, .code (sub_ [1, 1, 1] (bodyOf Tryz.f197))] (mkSt [(0, .c (.sl 0)), (13, .c (.sl 0)), (14, .c (.v (.int .i64 x14))), (15, .c (.v (.int .i64 x15)))] [.row .ro 59 (.st .s59) x0])
theorem impl_IsLine.e4 (k : Nat) (x14 : Int) (x15 : Int) (x0 : List S59) : impl_IsLine.p4 (k + 1) x14 x15 x0 = if x15 < x14 then (if 0 ≤ x15 then (if x15 < (x0.length : Int) then (impl_IsPoint.ap k (⟨(rd_T59 x0 x15).f0, (rd_T59 x0 x15).f1⟩ : S59) fun r1 => if (!r1) = true then (impl_IsLine.ret false) else (if x15 > 0 then (if 0 ≤ (wrap64 (x15 - 1)) then (if (wrap64 (x15 - 1)) < (x0.length : Int) then (if ((rd_T59 x0 x15).f0) = ((rd_T59 x0 (wrap64 (x15 - 1))).f0) ∧ (((rd_T59 x0 x15).f1) = ((rd_T59 x0 (wrap64 (x15 - 1))).f1) ∧ True) then (impl_IsLine.ret false) else (impl_IsLine.p4 k x14 (wrap64 (x15 + 1)) x0)) else none) else none) else (impl_IsLine.p4 k x14 (wrap64 (x15 + 1)) x0))) else none) else none) else (impl_IsLine.ret true) := by kernel_rfl
def impl_IsLine.run (k : Nat) (h : HL eΓ [.l 59 (.st .s59)]) : Option (HL eΓ [.b]) := evF env impl_IsLine.Fs Tryz.f197 impl_IsLine.cut [.l 59 (.st .s59)] [.b] k h
theorem impl_IsLine.ef (k : Nat) (h0 : List S59) : impl_IsLine.run k (h0, ()) = if (h0.length : Int) < 2 then (impl_IsLine.ret false) else (if (h0.length : Int) > 10 then (impl_IsLine.ret false) else (impl_IsLine.p4 k (h0.length : Int) 0 h0)) := by kernel_rfl
def impl_IsLine.toH (t : Bool) : HL eΓ [.b] := (t, ())
def impl_IsLine.spec : Spc env := ⟨197, [.l 59 (.st .s59)], [.b], impl_IsLine.run⟩
def impl_IsLine.ap {R : Type} (k : Nat) (h0 : List S59) (K : Bool → Option R) : Option R := (impl_IsLine.run k (h0, ())).bind fun r => K (r.1 : Bool)
theorem impl_IsLine.ap_of {R : Type} {k : Nat} {h0 : List S59} {r0 : Bool} {K : Bool → Option R} (h : impl_IsLine.run k (h0, ()) = some (r0, ())) : impl_IsLine.ap k h0 K = K r0 := by unfold impl_IsLine.ap; rw [h]; rfl
theorem impl_IsLine.snd : Snd env impl_IsLine.spec := evF_snd env_ok (sndC impl_IsPoint.snd (sndN))
attribute [local irreducible] impl_IsLine.run
theorem impl_IsLine.rt (a0 : Bool) : impl_IsLine.ret a0 = some (impl_IsLine.toH (a0)) := rfl
theorem impl_IsLine.br (n : Nat) : (∀ K, n ≤ K → ∀ (x14 : Int) (x15 : Int) (x0 : List S59) t, impl_IsLine.l0 n x0 x0 x14 x15 = some t → impl_IsLine.p4 K x14 x15 x0 = some (impl_IsLine.toH t)) := by
  induction n using Nat.strongRecOn with
  | _ n ih =>
  intro K hK x14 x15 x0 t h
  all_goals (rcases n with _ | k)
  all_goals (try (exact nos h))
  all_goals (obtain ⟨K, rfl⟩ : ∃ q, K = q + 1 := ⟨K - 1, by omega⟩)
  all_goals (first | rw [impl_IsLine.e4])
  all_goals (simp only [impl_IsLine.l0] at h)
  repeat' (with_reducible first
   | exact nos h
   | (cases some_inj h; exact impl_IsLine.rt _)
   | exact (ih _ (by omega)) _ (by omega) _ _ _ _ h
   | ((have q : impl_IsLine.j0 k _ _ = some _ := h; clear q); rcases k with _ | k <;> simp only [impl_IsLine.j0, reduceCtorEq] at h)
   | (simp only [Option.bind_some] at h)
   | (refine ite_by h ?_ ?_ <;> (intro hc h; (try simp only [nrm] at hc)))
   | refine itT ?_
   | refine itF ?_
   | (refine bind_by h (fun t ht h => ?_); refine (impl_IsPoint.ap_of (impl_IsPoint.go ht _)).trans ?_; (try dsimp only at h ⊢))
   | (simp only [nr2] at h ⊢)
   | (exfalso; omega))
theorem impl_IsLine.go {k : Nat} {l0 : List S59} {t} (h : impl_IsLine.f k l0 = some t) (K : Nat) (hK : k ≤ K) : impl_IsLine.run K (l0, ()) = some (impl_IsLine.toH t) := by
  rw [impl_IsLine.ef]
  (try dsimp only)
  unfold impl_IsLine.f at h
  repeat' (with_reducible first
   | exact nos h
   | (cases some_inj h; exact impl_IsLine.rt _)
   | exact (impl_IsLine.br _) _ (by omega) _ _ _ _ h
   | ((have q : impl_IsLine.j0 k _ _ = some _ := h; clear q); rcases k with _ | k <;> simp only [impl_IsLine.j0, reduceCtorEq] at h)
   | (simp only [Option.bind_some] at h)
   | (refine ite_by h ?_ ?_ <;> (intro hc h; (try simp only [nrm] at hc)))
   | refine itT ?_
   | refine itF ?_
   | (refine bind_by h (fun t ht h => ?_); refine (impl_IsPoint.ap_of (impl_IsPoint.go ht _)).trans ?_; (try dsimp only at h ⊢))
   | (simp only [nr2] at h ⊢)
   | (exfalso; omega))
def impl_SegmentsOf.Fs : List (Spc env) := [impl_IsLine.spec]
def impl_SegmentsOf.fin : St eΓ → Option (HL eΓ [.l 149 (.st .s149)]) := finR env Tryz.f188.results.toList [.l 149 (.st .s149)]
def impl_SegmentsOf.cut : Nat → Option (List (Lv SC)) := lk [(5, [⟨0, none, false⟩, ⟨3, none, false⟩, ⟨4, none, false⟩])]
def impl_SegmentsOf.ret (r0 : List S149) : Option (HL eΓ [.l 149 (.st .s149)]) := some (r0, ())
def impl_SegmentsOf.p5 (k : Nat) (x4 : Int) (x0 : List S59) (x3 : List S149) : Option (HL eΓ [.l 149 (.st .s149)]) := evM env impl_SegmentsOf.Fs Tryz.f188.ntmps impl_SegmentsOf.fin impl_SegmentsOf.cut k [.code (sub_ [1, 1, 1, 0, 1, 0, 0, 0, 0] (bodyOf Tryz.f188)), .code (sub_ [1, 1, 1, 0, 1, 0, 0, 0, 1] (bodyOf Tryz.f188)), .code (sub_ [1, 1, 1, 0, 1, 0, 0, 1] (bodyOf Tryz.f188)), .lp (sub_ [1, 1, 1, 0, 1, 0, 0] (bodyOf Tryz.f188)), .blk 0, .code (sub_ [1, 1, 1, 1] (bodyOf Tryz.f188))] (mkSt [(0, .c (.sl 0)), (3, .c (.sl 1)), (4, .c (.v (.int .i64 x4)))] [.row .ro 59 (.st .s59) x0, .row .own 149 (.st .s149) x3])
theorem impl_SegmentsOf.e5 (k : Nat) (x4 : Int) (x0 : List S59) (x3 : List S149) : impl_SegmentsOf.p5 (k + 1) x4 x0 x3 = if x4 < (x0.length : Int) then (if 0 ≤ (wrap64 (x4 - 1)) then (if (wrap64 (x4 - 1)) < (x0.length : Int) then (if 0 ≤ x4 then (if x4 < (x0.length : Int) then (if (x3.length + 1) * 32 ≤ 140737488355328 then (impl_SegmentsOf.p5 k (wrap64 (x4 + 1)) x0 (x3 ++ [(⟨(⟨(rd_T59 x0 (wrap64 (x4 - 1))).f0, (rd_T59 x0 (wrap64 (x4 - 1))).f1⟩ : S59), (⟨(rd_T59 x0 x4).f0, (rd_T59 x0 x4).f1⟩ : S59)⟩ : S149)])) else none) else none) else none) else none) else none) else (impl_SegmentsOf.ret x3) := by kernel_rfl
def impl_SegmentsOf.run (k : Nat) (h : HL eΓ [.l 59 (.st .s59)]) : Option (HL eΓ [.l 149 (.st .s149)]) := evF env impl_SegmentsOf.Fs Tryz.f188 impl_SegmentsOf.cut [.l 59 (.st .s59)] [.l 149 (.st .s149)] k h
theorem impl_SegmentsOf.ef (k : Nat) (h0 : List S59) : impl_SegmentsOf.run k (h0, ()) = impl_IsLine.ap k h0 fun r1 => if (!r1) = true then (impl_SegmentsOf.ret ([] : List S149)) else (impl_SegmentsOf.p5 k 1 h0 ([] : List S149)) := by kernel_rfl
def impl_SegmentsOf.toH (t : (List (S149))) : HL eΓ [.l 149 (.st .s149)] := (t, ())
def impl_SegmentsOf.spec : Spc env := ⟨188, [.l 59 (.st .s59)], [.l 149 (.st .s149)], impl_SegmentsOf.run⟩
def impl_SegmentsOf.ap {R : Type} (k : Nat) (h0 : List S59) (K : (List S149) → Option R) : Option R := (impl_SegmentsOf.run k (h0, ())).bind fun r => K (r.1 : List S149)
theorem impl_SegmentsOf.ap_of {R : Type} {k : Nat} {h0 : List S59} {r0 : List S149} {K : (List S149) → Option R} (h : impl_SegmentsOf.run k (h0, ()) = some (r0, ())) : impl_SegmentsOf.ap k h0 K = K r0 := by unfold impl_SegmentsOf.ap; rw [h]; rfl
theorem impl_SegmentsOf.snd : Snd env impl_SegmentsOf.spec := evF_snd env_ok (sndC impl_IsLine.snd (sndN))
attribute [local irreducible] impl_SegmentsOf.run
theorem impl_SegmentsOf.rt (a0 : List S149) : impl_SegmentsOf.ret a0 = some (impl_SegmentsOf.toH (a0)) := rfl
theorem impl_SegmentsOf.br (n : Nat) : (∀ K, n ≤ K → ∀ (x4 : Int) (x0 : List S59) (x3 : List S149) t, impl_SegmentsOf.l0 n x0 x3 x4 = some t → impl_SegmentsOf.p5 K x4 x0 x3 = some (impl_SegmentsOf.toH t)) := by
  induction n using Nat.strongRecOn with
  | _ n ih =>
  intro K hK x4 x0 x3 t h
  all_goals (rcases n with _ | k)
  all_goals (try (exact nos h))
  all_goals (obtain ⟨K, rfl⟩ : ∃ q, K = q + 1 := ⟨K - 1, by omega⟩)
  all_goals (first | rw [impl_SegmentsOf.e5])
  all_goals (simp only [impl_SegmentsOf.l0] at h)
  repeat' (with_reducible first
   | exact nos h
   | (cases some_inj h; exact impl_SegmentsOf.rt _)
   | exact (ih _ (by omega)) _ (by omega) _ _ _ _ h
   | (simp only [Option.bind_some] at h)
   | (refine ite_by h ?_ ?_ <;> (intro hc h; (try simp only [nrm] at hc)))
   | refine itT ?_
   | refine itF ?_
   | (refine bind_by h (fun t ht h => ?_); refine (impl_IsLine.ap_of (impl_IsLine.go ht _ (by omega))).trans ?_; (try dsimp only at h ⊢))
   | (simp only [nr2] at h ⊢)
   | (exfalso; omega))
theorem impl_SegmentsOf.go {k : Nat} {l0 : List S59} {t} (h : impl_SegmentsOf.f k l0 = some t) (K : Nat) (hK : k ≤ K) : impl_SegmentsOf.run K (l0, ()) = some (impl_SegmentsOf.toH t) := by
  rw [impl_SegmentsOf.ef]
  (try dsimp only)
  unfold impl_SegmentsOf.f at h
  repeat' (with_reducible first
   | exact nos h
   | (cases some_inj h; exact impl_SegmentsOf.rt _)
   | exact (impl_SegmentsOf.br _) _ (by omega) _ _ _ _ h
   | (simp only [Option.bind_some] at h)
   | (refine ite_by h ?_ ?_ <;> (intro hc h; (try simp only [nrm] at hc)))
   | refine itT ?_
   | refine itF ?_
   | (refine bind_by h (fun t ht h => ?_); refine (impl_IsLine.ap_of (impl_IsLine.go ht _ (by omega))).trans ?_; (try dsimp only at h ⊢))
   | (simp only [nr2] at h ⊢)
   | (exfalso; omega))
def impl_IsSimple.Fs : List (Spc env) := [impl_IsLine.spec, impl_SegmentsOf.spec, impl_HowMeet.spec]
def impl_IsSimple.fin : St eΓ → Option (HL eΓ [.b]) := finR env Tryz.f156.results.toList [.b]
def impl_IsSimple.cut : Nat → Option (List (Lv SC)) := lk [(5, [⟨3, none, false⟩, ⟨13, none, false⟩, ⟨14, none, false⟩]), (8, [⟨3, none, false⟩, ⟨4, none, false⟩, ⟨13, none, false⟩, ⟨14, none, false⟩, ⟨17, none, false⟩, ⟨18, none, false⟩])]
def impl_IsSimple.ret (r0 : Bool) : Option (HL eΓ [.b]) := some (r0, ())
def impl_IsSimple.p5 (k : Nat) (x13 : Int) (x14 : Int) (x3 : List S149) : Option (HL eΓ [.b]) := evM env impl_IsSimple.Fs Tryz.f156.ntmps impl_IsSimple.fin impl_IsSimple.cut k [.code (sub_ [1, 1, 1, 0, 1, 0, 0, 0] (bodyOf Tryz.f156)), .code (sub_ [1, 1, 1, 0, 1, 0, 0, 1] (bodyOf Tryz.f156)), .lp (sub_ [1, 1, 1, 0, 1, 0, 0] (bodyOf Tryz.f156)), .blk 0, .code (sub_ [1, 1, 1, 1] (bodyOf Tryz.f156))] (mkSt [(3, .c (.sl 0)), (13, .c (.v (.int .i64 x13))), (14, .c (.v (.int .i64 x14)))] [.row .own 149 (.st .s149) x3])
def impl_IsSimple.p8 (k : Nat) (x4 : Int) (x13 : Int) (x14 : Int) (x17 : Int) (x18 : Int) (x3 : List S149) : Option (HL eΓ [.b]) := evM env impl_IsSimple.Fs Tryz.f156.ntmps impl_IsSimple.fin impl_IsSimple.cut k [.code (sub_ [1, 1, 1, 0, 1, 0, 0, 1, 1, 0, 0, 1, 1, 0, 0, 0] (bodyOf Tryz.f156)), .code (sub_ [1, 1, 1, 0, 1, 0, 0, 1, 1, 0, 0, 1, 1, 0, 0, 1] (bodyOf Tryz.f156)), .lp (sub_ [1, 1, 1, 0, 1, 0, 0, 1, 1, 0, 0, 1, 1, 0, 0] (bodyOf Tryz.f156)), .blk 2, .blk 1, .code (sub_ [1, 1, 1, 0, 1, 0, 0, 1, 1, 1] (bodyOf Tryz.f156)), .lp (sub_ [1, 1, 1, 0, 1, 0, 0] (bodyOf Tryz.f156)), .blk 0, .code (sub_ [1, 1, 1, 1] (bodyOf Tryz.f156))] (mkSt [(3, .c (.sl 0)), (4, .c (.v (.int .i64 x4))), (13, .c (.v (.int .i64 x13))), (14, .c (.v (.int .i64 x14))), (17, .c (.v (.int .i64 x17))), (18, .c (.v (.int .i64 x18)))] [.row .own 149 (.st .s149) x3])
theorem impl_IsSimple.e5 (k : Nat) (x13 : Int) (x14 : Int) (x3 : List S149) : impl_IsSimple.p5 (k + 1) x13 x14 x3 = if x14 < x13 then (impl_IsSimple.p8 k x14 x13 x14 x14 0 x3) else (impl_IsSimple.ret true) := by kernel_rfl
theorem impl_IsSimple.e8 (k : Nat) (x4 : Int) (x13 : Int) (x14 : Int) (x17 : Int) (x18 : Int) (x3 : List S149) : impl_IsSimple.p8 (k + 1) x4 x13 x14 x17 x18 x3 = if x18 < x17 then (if x18 = (wrap64 (x4 - 1)) then (if 0 ≤ x4 then (if x4 < (x3.length : Int) then (if 0 ≤ x18 then (if x18 < (x3.length : Int) then (impl_HowMeet.ap k (⟨(⟨(rd_T149 x3 x4).f0.f0, (rd_T149 x3 x4).f0.f1⟩ : S59), (⟨(rd_T149 x3 x4).f1.f0, (rd_T149 x3 x4).f1.f1⟩ : S59)⟩ : S149) (⟨(⟨(rd_T149 x3 x18).f0.f0, (rd_T149 x3 x18).f0.f1⟩ : S59), (⟨(rd_T149 x3 x18).f1.f0, (rd_T149 x3 x18).f1.f1⟩ : S59)⟩ : S149) fun r1 => if ¬ r1 = 1 then (impl_IsSimple.ret false) else (impl_IsSimple.p8 k x4 x13 x14 x17 (wrap64 (x18 + 1)) x3)) else none) else none) else none) else none) else (if 0 ≤ x4 then (if x4 < (x3.length : Int) then (if 0 ≤ x18 then (if x18 < (x3.length : Int) then (impl_HowMeet.ap k (⟨(⟨(rd_T149 x3 x4).f0.f0, (rd_T149 x3 x4).f0.f1⟩ : S59), (⟨(rd_T149 x3 x4).f1.f0, (rd_T149 x3 x4).f1.f1⟩ : S59)⟩ : S149) (⟨(⟨(rd_T149 x3 x18).f0.f0, (rd_T149 x3 x18).f0.f1⟩ : S59), (⟨(rd_T149 x3 x18).f1.f0, (rd_T149 x3 x18).f1.f1⟩ : S59)⟩ : S149) fun r2 => if ¬ r2 = 0 then (impl_IsSimple.ret false) else (impl_IsSimple.p8 k x4 x13 x14 x17 (wrap64 (x18 + 1)) x3)) else none) else none) else none) else none)) else (impl_IsSimple.p5 k x13 (wrap64 (x14 + 1)) x3) := by kernel_rfl
def impl_IsSimple.run (k : Nat) (h : HL eΓ [.l 59 (.st .s59)]) : Option (HL eΓ [.b]) := evF env impl_IsSimple.Fs Tryz.f156 impl_IsSimple.cut [.l 59 (.st .s59)] [.b] k h
theorem impl_IsSimple.ef (k : Nat) (h0 : List S59) : impl_IsSimple.run k (h0, ()) = impl_IsLine.ap k h0 fun r1 => if (!r1) = true then (impl_IsSimple.ret false) else (impl_SegmentsOf.ap k h0 fun r2 => impl_IsSimple.p5 k (r2.length : Int) 0 r2) := by kernel_rfl
def impl_IsSimple.toH (t : Bool) : HL eΓ [.b] := (t, ())
def impl_IsSimple.spec : Spc env := ⟨156, [.l 59 (.st .s59)], [.b], impl_IsSimple.run⟩
def impl_IsSimple.ap {R : Type} (k : Nat) (h0 : List S59) (K : Bool → Option R) : Option R := (impl_IsSimple.run k (h0, ())).bind fun r => K (r.1 : Bool)
theorem impl_IsSimple.ap_of {R : Type} {k : Nat} {h0 : List S59} {r0 : Bool} {K : Bool → Option R} (h : impl_IsSimple.run k (h0, ()) = some (r0, ())) : impl_IsSimple.ap k h0 K = K r0 := by unfold impl_IsSimple.ap; rw [h]; rfl
theorem impl_IsSimple.snd : Snd env impl_IsSimple.spec := evF_snd env_ok (sndC impl_IsLine.snd (sndC impl_SegmentsOf.snd (sndC impl_HowMeet.snd (sndN))))
attribute [local irreducible] impl_IsSimple.run
theorem impl_IsSimple.rt (a0 : Bool) : impl_IsSimple.ret a0 = some (impl_IsSimple.toH (a0)) := rfl
theorem impl_IsSimple.br (n : Nat) : (∀ K, n ≤ K → ∀ (x13 : Int) (x14 : Int) (x3 : List S149) t, impl_IsSimple.l0 n x3 x13 x14 = some t → impl_IsSimple.p5 K x13 x14 x3 = some (impl_IsSimple.toH t)) ∧ (∀ K, n ≤ K → ∀ (x4 : Int) (x13 : Int) (x14 : Int) (x17 : Int) (x18 : Int) (x3 : List S149) t, impl_IsSimple.l1 n x3 x4 x13 x14 x17 x18 = some t → impl_IsSimple.p8 K x4 x13 x14 x17 x18 x3 = some (impl_IsSimple.toH t)) := by
  induction n using Nat.strongRecOn with
  | _ n ih =>
  refine ⟨fun K hK x13 x14 x3 t h => ?_, fun K hK x4 x13 x14 x17 x18 x3 t h => ?_⟩
  all_goals (rcases n with _ | k)
  all_goals (try (exact nos h))
  all_goals (obtain ⟨K, rfl⟩ : ∃ q, K = q + 1 := ⟨K - 1, by omega⟩)
  all_goals (first | rw [impl_IsSimple.e5] | rw [impl_IsSimple.e8])
  all_goals (simp only [impl_IsSimple.l0, impl_IsSimple.l1] at h)
  repeat' (with_reducible first
   | exact nos h
   | (cases some_inj h; exact impl_IsSimple.rt _)
   | exact (ih _ (by omega)).1 _ (by omega) _ _ _ _ h
   | exact (ih _ (by omega)).2 _ (by omega) _ _ _ _ _ _ _ h
   | (simp only [Option.bind_some] at h)
   | (refine ite_by h ?_ ?_ <;> (intro hc h; (try simp only [nrm] at hc)))
   | refine itT ?_
   | refine itF ?_
   | (refine bind_by h (fun t ht h => ?_); (first | refine (impl_IsLine.ap_of (impl_IsLine.go ht _ (by omega))).trans ?_ | refine (impl_SegmentsOf.ap_of (impl_SegmentsOf.go ht _ (by omega))).trans ?_ | refine (impl_HowMeet.ap_of (impl_HowMeet.go ht _ (by omega))).trans ?_); (try dsimp only at h ⊢))
   | (simp only [nr2] at h ⊢)
   | (exfalso; omega))
theorem impl_IsSimple.go {k : Nat} {l0 : List S59} {t} (h : impl_IsSimple.f k l0 = some t) (K : Nat) (hK : k ≤ K) : impl_IsSimple.run K (l0, ()) = some (impl_IsSimple.toH t) := by
  rw [impl_IsSimple.ef]
  (try dsimp only)
  unfold impl_IsSimple.f at h
  repeat' (with_reducible first
   | exact nos h
   | (cases some_inj h; exact impl_IsSimple.rt _)
   | exact (impl_IsSimple.br _).1 _ (by omega) _ _ _ _ h
   | exact (impl_IsSimple.br _).2 _ (by omega) _ _ _ _ _ _ _ h
   | (simp only [Option.bind_some] at h)
   | (refine ite_by h ?_ ?_ <;> (intro hc h; (try simp only [nrm] at hc)))
   | refine itT ?_
   | refine itF ?_
   | (refine bind_by h (fun t ht h => ?_); (first | refine (impl_IsLine.ap_of (impl_IsLine.go ht _ (by omega))).trans ?_ | refine (impl_SegmentsOf.ap_of (impl_SegmentsOf.go ht _ (by omega))).trans ?_ | refine (impl_HowMeet.ap_of (impl_HowMeet.go ht _ (by omega))).trans ?_); (try dsimp only at h ⊢))
   | (simp only [nr2] at h ⊢)
   | (exfalso; omega))
def impl_IsFeature.Fs : List (Spc env) := [impl_InRange.spec, impl_IsName.spec, impl_IsPoint.spec, impl_IsSimple.spec, impl_IsRing.spec]
def impl_IsFeature.cut : Nat → Option (List (Lv SC)) := lk []
def impl_IsFeature.ret (r0 : Bool) : Option (HL eΓ [.b]) := some (r0, ())
def impl_IsFeature.run (k : Nat) (h : HL eΓ [.st .s57]) : Option (HL eΓ [.b]) := evF env impl_IsFeature.Fs Tryz.f113 impl_IsFeature.cut [.st .s57] [.b] k h
theorem impl_IsFeature.ef (k : Nat) (h0 : S57) : impl_IsFeature.run k (h0, ()) = impl_InRange.ap k h0.f0 1 99 fun r1 => if (!r1) = true then (impl_IsFeature.ret false) else (impl_InRange.ap k h0.f2 0 9 fun r2 => if (!r2) = true then (impl_IsFeature.ret false) else (if ¬ h0.f3.toList = [] then (impl_IsName.ap k h0.f3 fun r3 => if (!r3) = true then (impl_IsFeature.ret false) else (if h0.f1 = 1 then (if (h0.f4.length : Int) = 1 then (if 0 < (h0.f4.length : Int) then (impl_IsPoint.ap k (⟨(rd_T59 h0.f4 0).f0, (rd_T59 h0.f4 0).f1⟩ : S59) fun r4 => impl_IsFeature.ret r4) else none) else (impl_IsFeature.ret false)) else (if h0.f1 = 2 then (impl_IsSimple.ap k h0.f4 fun r5 => impl_IsFeature.ret r5) else (if h0.f1 = 3 then (impl_IsRing.ap k h0.f4 fun r6 => impl_IsFeature.ret r6) else (impl_IsFeature.ret false))))) else (if h0.f1 = 1 then (if (h0.f4.length : Int) = 1 then (if 0 < (h0.f4.length : Int) then (impl_IsPoint.ap k (⟨(rd_T59 h0.f4 0).f0, (rd_T59 h0.f4 0).f1⟩ : S59) fun r7 => impl_IsFeature.ret r7) else none) else (impl_IsFeature.ret false)) else (if h0.f1 = 2 then (impl_IsSimple.ap k h0.f4 fun r8 => impl_IsFeature.ret r8) else (if h0.f1 = 3 then (impl_IsRing.ap k h0.f4 fun r9 => impl_IsFeature.ret r9) else (impl_IsFeature.ret false)))))) := by kernel_rfl
def impl_IsFeature.toH (t : Bool) : HL eΓ [.b] := (t, ())
def impl_IsFeature.spec : Spc env := ⟨113, [.st .s57], [.b], impl_IsFeature.run⟩
def impl_IsFeature.ap {R : Type} (k : Nat) (h0 : S57) (K : Bool → Option R) : Option R := (impl_IsFeature.run k (h0, ())).bind fun r => K (r.1 : Bool)
theorem impl_IsFeature.ap_of {R : Type} {k : Nat} {h0 : S57} {r0 : Bool} {K : Bool → Option R} (h : impl_IsFeature.run k (h0, ()) = some (r0, ())) : impl_IsFeature.ap k h0 K = K r0 := by unfold impl_IsFeature.ap; rw [h]; rfl
theorem impl_IsFeature.snd : Snd env impl_IsFeature.spec := evF_snd env_ok (sndC impl_InRange.snd (sndC impl_IsName.snd (sndC impl_IsPoint.snd (sndC impl_IsSimple.snd (sndC impl_IsRing.snd (sndN))))))
attribute [local irreducible] impl_IsFeature.run
theorem impl_IsFeature.rt (a0 : Bool) : impl_IsFeature.ret a0 = some (impl_IsFeature.toH (a0)) := rfl
theorem impl_IsFeature.go {k : Nat} {a0_0 : Int} {a0_1 : Int} {a0_2 : Int} {a0_3 : ByteArray} {l0_4 : List S59} {t} (h : impl_IsFeature.f k a0_0 a0_1 a0_2 a0_3 l0_4 = some t) (K : Nat) (hK : k ≤ K) : impl_IsFeature.run K ((⟨a0_0, a0_1, a0_2, a0_3, l0_4⟩ : S57), ()) = some (impl_IsFeature.toH t) := by
  rw [impl_IsFeature.ef]
  (try dsimp only)
  unfold impl_IsFeature.f at h
  repeat' (with_reducible first
   | exact nos h
   | (cases some_inj h; exact impl_IsFeature.rt _)
   | ((have q : impl_IsFeature.j0 k _ _ _ _ _ _ = some _ := h; clear q); rcases k with _ | k <;> simp only [impl_IsFeature.j0, reduceCtorEq] at h)
   | (simp only [Option.bind_some] at h)
   | (refine ite_by h ?_ ?_ <;> (intro hc h; (try simp only [nrm] at hc)))
   | refine itT ?_
   | refine itF ?_
   | (refine bind_by h (fun t ht h => ?_); (first | refine (impl_InRange.ap_of (impl_InRange.go ht _)).trans ?_ | refine (impl_IsName.ap_of (impl_IsName.go ht _ (by omega))).trans ?_ | refine (impl_IsPoint.ap_of (impl_IsPoint.go ht _)).trans ?_ | refine (impl_IsSimple.ap_of (impl_IsSimple.go ht _ (by omega))).trans ?_ | refine (impl_IsRing.ap_of (impl_IsRing.go ht _ (by omega))).trans ?_); (try dsimp only at h ⊢))
   | (simp only [nr2] at h ⊢)
   | (exfalso; omega))
def impl_IsSource.Fs : List (Spc env) := [impl_IsFeature.spec]
def impl_IsSource.fin : St eΓ → Option (HL eΓ [.b]) := finR env Tryz.f65.results.toList [.b]
def impl_IsSource.cut : Nat → Option (List (Lv SC)) := lk [(4, [⟨0, none, false⟩, ⟨8, none, false⟩, ⟨9, none, false⟩, ⟨10, none, false⟩])]
def impl_IsSource.ret (r0 : Bool) : Option (HL eΓ [.b]) := some (r0, ())
def impl_IsSource.p4 (k : Nat) (x9 : Int) (x10 : Int) (x0 : List S57) : Option (HL eΓ [.b]) := evM env impl_IsSource.Fs Tryz.f65.ntmps impl_IsSource.fin impl_IsSource.cut k [.code (sub_ [1, 1, 0, 1, 0, 0, 0] (bodyOf Tryz.f65)), .code (sub_ [1, 1, 0, 1, 0, 0, 1] (bodyOf Tryz.f65)), .lp (sub_ [1, 1, 0, 1, 0, 0] (bodyOf Tryz.f65)), .blk 0, .code (sub_ [1, 1, 1] (bodyOf Tryz.f65))] (mkSt [(0, .c (.sl 0)), (8, .c (.sl 0)), (9, .c (.v (.int .i64 x9))), (10, .c (.v (.int .i64 x10)))] [.row .ro 57 (.st .s57) x0])
theorem impl_IsSource.e4 (k : Nat) (x9 : Int) (x10 : Int) (x0 : List S57) : impl_IsSource.p4 (k + 1) x9 x10 x0 = if x10 < x9 then (if 0 ≤ x10 then (if x10 < (x0.length : Int) then (impl_IsFeature.ap k (⟨(rd_T57 x0 x10).f0, (rd_T57 x0 x10).f1, (rd_T57 x0 x10).f2, (rd_T57 x0 x10).f3, (rd_T57 x0 x10).f4⟩ : S57) fun r1 => if (!r1) = true then (impl_IsSource.ret false) else (if x10 > 0 then (if 0 ≤ (wrap64 (x10 - 1)) then (if (wrap64 (x10 - 1)) < (x0.length : Int) then (if ((rd_T57 x0 x10).f0) ≤ ((rd_T57 x0 (wrap64 (x10 - 1))).f0) then (impl_IsSource.ret false) else (impl_IsSource.p4 k x9 (wrap64 (x10 + 1)) x0)) else none) else none) else (impl_IsSource.p4 k x9 (wrap64 (x10 + 1)) x0))) else none) else none) else (impl_IsSource.ret true) := by kernel_rfl
def impl_IsSource.run (k : Nat) (h : HL eΓ [.l 57 (.st .s57)]) : Option (HL eΓ [.b]) := evF env impl_IsSource.Fs Tryz.f65 impl_IsSource.cut [.l 57 (.st .s57)] [.b] k h
theorem impl_IsSource.ef (k : Nat) (h0 : List S57) : impl_IsSource.run k (h0, ()) = if (h0.length : Int) > 16 then (impl_IsSource.ret false) else (impl_IsSource.p4 k (h0.length : Int) 0 h0) := by kernel_rfl
def impl_IsSource.toH (t : Bool) : HL eΓ [.b] := (t, ())
def impl_IsSource.spec : Spc env := ⟨65, [.l 57 (.st .s57)], [.b], impl_IsSource.run⟩
def impl_IsSource.ap {R : Type} (k : Nat) (h0 : List S57) (K : Bool → Option R) : Option R := (impl_IsSource.run k (h0, ())).bind fun r => K (r.1 : Bool)
theorem impl_IsSource.ap_of {R : Type} {k : Nat} {h0 : List S57} {r0 : Bool} {K : Bool → Option R} (h : impl_IsSource.run k (h0, ()) = some (r0, ())) : impl_IsSource.ap k h0 K = K r0 := by unfold impl_IsSource.ap; rw [h]; rfl
theorem impl_IsSource.snd : Snd env impl_IsSource.spec := evF_snd env_ok (sndC impl_IsFeature.snd (sndN))
attribute [local irreducible] impl_IsSource.run
theorem impl_IsSource.rt (a0 : Bool) : impl_IsSource.ret a0 = some (impl_IsSource.toH (a0)) := rfl
theorem impl_IsSource.br (n : Nat) : (∀ K, n ≤ K → ∀ (x9 : Int) (x10 : Int) (x0 : List S57) t, impl_IsSource.l0 n x0 x0 x9 x10 = some t → impl_IsSource.p4 K x9 x10 x0 = some (impl_IsSource.toH t)) := by
  induction n using Nat.strongRecOn with
  | _ n ih =>
  intro K hK x9 x10 x0 t h
  all_goals (rcases n with _ | k)
  all_goals (try (exact nos h))
  all_goals (obtain ⟨K, rfl⟩ : ∃ q, K = q + 1 := ⟨K - 1, by omega⟩)
  all_goals (first | rw [impl_IsSource.e4])
  all_goals (simp only [impl_IsSource.l0] at h)
  repeat' (with_reducible first
   | exact nos h
   | (cases some_inj h; exact impl_IsSource.rt _)
   | exact (ih _ (by omega)) _ (by omega) _ _ _ _ h
   | (simp only [Option.bind_some] at h)
   | (refine ite_by h ?_ ?_ <;> (intro hc h; (try simp only [nrm] at hc)))
   | refine itT ?_
   | refine itF ?_
   | (refine bind_by h (fun t ht h => ?_); refine (impl_IsFeature.ap_of (impl_IsFeature.go ht _ (by omega))).trans ?_; (try dsimp only at h ⊢))
   | (simp only [nr2] at h ⊢)
   | (exfalso; omega))
theorem impl_IsSource.go {k : Nat} {l0 : List S57} {t} (h : impl_IsSource.f k l0 = some t) (K : Nat) (hK : k ≤ K) : impl_IsSource.run K (l0, ()) = some (impl_IsSource.toH t) := by
  rw [impl_IsSource.ef]
  (try dsimp only)
  unfold impl_IsSource.f at h
  repeat' (with_reducible first
   | exact nos h
   | (cases some_inj h; exact impl_IsSource.rt _)
   | exact (impl_IsSource.br _) _ (by omega) _ _ _ _ h
   | (simp only [Option.bind_some] at h)
   | (refine ite_by h ?_ ?_ <;> (intro hc h; (try simp only [nrm] at hc)))
   | refine itT ?_
   | refine itF ?_
   | (refine bind_by h (fun t ht h => ?_); refine (impl_IsFeature.ap_of (impl_IsFeature.go ht _ (by omega))).trans ?_; (try dsimp only at h ⊢))
   | (simp only [nr2] at h ⊢)
   | (exfalso; omega))
theorem impl_IsSource.calls (k : Nat) (A0 : Option Addr) (c0 : Nat) (l0 : List (S57)) (r : Bool) (w : World) (hr0 : Kd.C k57 w A0 l0.length l0) (hc0 : l0.length ≤ c0) (h : impl_IsSource.f k l0 = some r) :
  Calls Tryz.prog 65 #[.slice A0 l0.length c0] w fun e w' => e = .returned (.bool r) ∧ Below w.heap.size w w' := by
  refine (impl_IsSource.snd.calls _ _ _ (impl_IsSource.go h k (Nat.le_refl k)) w [.slice A0 l0.length c0] ⟨⟨_, _, rfl, hc0, hr0⟩, trivial⟩).mono ?_
  rintro e w' ⟨v, rfl, hB, vs, oks, rfl, hR, _⟩
  obtain ⟨x0_, vs, o0_, oks, rfl, rfl, m0_, hR⟩ := rmsC hR
  obtain rfl := rmsN hR
  obtain rfl := List.singleton_inj.1 (show [x0_] = [Value.bool r] from m0_)
  exact ⟨rfl, hB⟩
def impl_FindFeature.toH (t : Int) : HL eΓ [.i .i64] := (t, ())
def impl_FindFeature.run (k : Nat) (h : HL eΓ [.l 57 (.st .s57), .i .i64]) : Option (HL eΓ [.i .i64]) := (impl_FindFeature.f (h.1 : List S57) (h.2.1 : Int)).map impl_FindFeature.toH
def impl_FindFeature.spec : Spc env := ⟨41, [.l 57 (.st .s57), .i .i64], [.i .i64], impl_FindFeature.run⟩
def impl_FindFeature.ap {R : Type} (k : Nat) (h0 : List S57) (h1 : Int) (K : Int → Option R) : Option R := (impl_FindFeature.run k (h0, h1, ())).bind fun r => K (r.1 : Int)
theorem impl_FindFeature.ap_of {R : Type} {k : Nat} {h0 : List S57} {h1 : Int} {r0 : Int} {K : Int → Option R} (h : impl_FindFeature.run k (h0, h1, ()) = some (r0, ())) : impl_FindFeature.ap k h0 h1 K = K r0 := by unfold impl_FindFeature.ap; rw [h]; rfl
theorem impl_FindFeature.go {l0 : List S57} {a1 : Int} {t} (h : impl_FindFeature.f l0 a1 = some t) (K : Nat) : impl_FindFeature.run K (l0, a1, ()) = some (impl_FindFeature.toH t) := by
  show Option.map _ (impl_FindFeature.f l0 a1) = _
  rw [h]; rfl
theorem impl_FindFeature.snd : Snd env impl_FindFeature.spec := ⟨⟨Tryz.f41, by kernel_rfl, by kernel_rfl, by kernel_rfl⟩, fun k h r he w us hA => by
  obtain ⟨t, ht, rfl⟩ := Option.map_eq_some_iff.1 (show (impl_FindFeature.f (h.1 : List S57) (h.2.1 : Int)).map impl_FindFeature.toH = some r from he)
  match us, hA with
  | [u0, u1], ⟨q0, q1, _⟩ =>
  obtain ⟨A0, c0, e0, l0, g0⟩ := q0
  obtain rfl := List.singleton_inj.1 e0
  obtain rfl := List.singleton_inj.1 (show [u1] = [Value.int .i64 (h.2.1 : Int)] from q1)
  refine (impl_FindFeature.calls (w := w) (h := ht) (hr0 := g0) (hc0 := l0)).mono ?_
  rintro e w' ⟨he, hw⟩
  exact ⟨_, he, hw, [.int .i64 t], [fun _ => False], rfl, ⟨rfl, trivial⟩, by simp [DJ]⟩⟩
def impl_Point.Fs : List (Spc env) := []
def impl_Point.fin : St eΓ → Option (HL eΓ [.b]) := finR env Tryz.f157.results.toList [.b]
def impl_Point.cut : Nat → Option (List (Lv SC)) := lk [(4, [⟨0, none, false⟩, ⟨1, none, false⟩, ⟨12, none, false⟩, ⟨13, none, false⟩])]
def impl_Point.ret (r0 : Bool) : Option (HL eΓ [.b]) := some (r0, ())
def impl_Point.p4 (k : Nat) (x12 : Int) (x13 : Int) (x0 : List S59) (x1 : List S59) : Option (HL eΓ [.b]) := evM env impl_Point.Fs Tryz.f157.ntmps impl_Point.fin impl_Point.cut k [.code (sub_ [1, 1, 0, 1, 0, 0, 0] (bodyOf Tryz.f157)), .code (sub_ [1, 1, 0, 1, 0, 0, 1] (bodyOf Tryz.f157)), .lp (sub_ [1, 1, 0, 1, 0, 0] (bodyOf Tryz.f157)), .blk 0, .code (sub_ [1, 1, 1] (bodyOf Tryz.f157))] (mkSt [(0, .c (.sl 0)), (1, .c (.sl 1)), (12, .c (.v (.int .i64 x12))), (13, .c (.v (.int .i64 x13)))] [.row .ro 59 (.st .s59) x0, .row .ro 59 (.st .s59) x1])
theorem impl_Point.e4 (k : Nat) (x12 : Int) (x13 : Int) (x0 : List S59) (x1 : List S59) : impl_Point.p4 (k + 1) x12 x13 x0 x1 = if x13 < x12 then (if 0 ≤ x13 then (if x13 < (x0.length : Int) then (if 0 ≤ x13 then (if x13 < (x1.length : Int) then (if ¬ (((rd_T59 x0 x13).f0) = ((rd_T59 x1 x13).f0) ∧ (((rd_T59 x0 x13).f1) = ((rd_T59 x1 x13).f1) ∧ True)) then (impl_Point.ret false) else (impl_Point.p4 k x12 (wrap64 (x13 + 1)) x0 x1)) else none) else none) else none) else none) else (impl_Point.ret true) := by kernel_rfl
def impl_Point.run (k : Nat) (h : HL eΓ [.l 59 (.st .s59), .l 59 (.st .s59)]) : Option (HL eΓ [.b]) := evF env impl_Point.Fs Tryz.f157 impl_Point.cut [.l 59 (.st .s59), .l 59 (.st .s59)] [.b] k h
theorem impl_Point.ef (k : Nat) (h0 : List S59) (h1 : List S59) : impl_Point.run k (h0, h1, ()) = if ¬ (h0.length : Int) = (h1.length : Int) then (impl_Point.ret false) else (impl_Point.p4 k (h0.length : Int) 0 h0 h1) := by kernel_rfl
def impl_Point.toH (t : Bool) : HL eΓ [.b] := (t, ())
def impl_Point.spec : Spc env := ⟨157, [.l 59 (.st .s59), .l 59 (.st .s59)], [.b], impl_Point.run⟩
def impl_Point.ap {R : Type} (k : Nat) (h0 : List S59) (h1 : List S59) (K : Bool → Option R) : Option R := (impl_Point.run k (h0, h1, ())).bind fun r => K (r.1 : Bool)
theorem impl_Point.ap_of {R : Type} {k : Nat} {h0 : List S59} {h1 : List S59} {r0 : Bool} {K : Bool → Option R} (h : impl_Point.run k (h0, h1, ()) = some (r0, ())) : impl_Point.ap k h0 h1 K = K r0 := by unfold impl_Point.ap; rw [h]; rfl
theorem impl_Point.snd : Snd env impl_Point.spec := evF_snd env_ok (sndN)
attribute [local irreducible] impl_Point.run
theorem impl_Point.rt (a0 : Bool) : impl_Point.ret a0 = some (impl_Point.toH (a0)) := rfl
theorem impl_Point.br (n : Nat) : (∀ K, n ≤ K → ∀ (x12 : Int) (x13 : Int) (x0 : List S59) (x1 : List S59) t, impl_Point.l0 n x0 x1 x12 x13 = some t → impl_Point.p4 K x12 x13 x0 x1 = some (impl_Point.toH t)) := by
  induction n using Nat.strongRecOn with
  | _ n ih =>
  intro K hK x12 x13 x0 x1 t h
  all_goals (rcases n with _ | k)
  all_goals (try (exact nos h))
  all_goals (obtain ⟨K, rfl⟩ : ∃ q, K = q + 1 := ⟨K - 1, by omega⟩)
  all_goals (first | rw [impl_Point.e4])
  all_goals (simp only [impl_Point.l0] at h)
  repeat' (with_reducible first
   | exact nos h
   | (cases some_inj h; exact impl_Point.rt _)
   | exact (ih _ (by omega)) _ (by omega) _ _ _ _ _ h
   | (simp only [Option.bind_some] at h)
   | (refine ite_by h ?_ ?_ <;> (intro hc h; (try simp only [nrm] at hc); (try simp only [Bool.or_eq_false_iff, Bool.not_eq_false', beq_eq_false_iff_ne, beq_iff_eq, ne_eq] at hc)))
   | refine itT ?_
   | refine itF ?_
   | (simp only [nr2] at h ⊢)
   | (exfalso; omega))
theorem impl_Point.go {k : Nat} {l0 : List S59} {l1 : List S59} {t} (h : impl_Point.f k l0 l1 = some t) (K : Nat) (hK : k ≤ K) : impl_Point.run K (l0, l1, ()) = some (impl_Point.toH t) := by
  rw [impl_Point.ef]
  (try dsimp only)
  unfold impl_Point.f at h
  repeat' (with_reducible first
   | exact nos h
   | (cases some_inj h; exact impl_Point.rt _)
   | exact (impl_Point.br _) _ (by omega) _ _ _ _ _ h
   | (simp only [Option.bind_some] at h)
   | (refine ite_by h ?_ ?_ <;> (intro hc h; (try simp only [nrm] at hc)))
   | refine itT ?_
   | refine itF ?_
   | (simp only [nr2] at h ⊢)
   | (exfalso; omega))
def impl_EqualFeatures.Fs : List (Spc env) := [impl_Point.spec]
def impl_EqualFeatures.cut : Nat → Option (List (Lv SC)) := lk []
def impl_EqualFeatures.ret (r0 : Bool) : Option (HL eΓ [.b]) := some (r0, ())
def impl_EqualFeatures.run (k : Nat) (h : HL eΓ [.st .s57, .st .s57]) : Option (HL eΓ [.b]) := evF env impl_EqualFeatures.Fs Tryz.f114 impl_EqualFeatures.cut [.st .s57, .st .s57] [.b] k h
theorem impl_EqualFeatures.ef (k : Nat) (h0 : S57) (h1 : S57) : impl_EqualFeatures.run k (h0, h1, ()) = if h0.f0 = h1.f0 then (if h0.f1 = h1.f1 then (if h0.f2 = h1.f2 then (if h0.f3.toList = h1.f3.toList then (impl_Point.ap k h0.f4 h1.f4 fun r1 => impl_EqualFeatures.ret r1) else (impl_EqualFeatures.ret false)) else (impl_EqualFeatures.ret false)) else (impl_EqualFeatures.ret false)) else (impl_EqualFeatures.ret false) := by kernel_rfl
def impl_EqualFeatures.toH (t : Bool) : HL eΓ [.b] := (t, ())
def impl_EqualFeatures.spec : Spc env := ⟨114, [.st .s57, .st .s57], [.b], impl_EqualFeatures.run⟩
def impl_EqualFeatures.ap {R : Type} (k : Nat) (h0 : S57) (h1 : S57) (K : Bool → Option R) : Option R := (impl_EqualFeatures.run k (h0, h1, ())).bind fun r => K (r.1 : Bool)
theorem impl_EqualFeatures.ap_of {R : Type} {k : Nat} {h0 : S57} {h1 : S57} {r0 : Bool} {K : Bool → Option R} (h : impl_EqualFeatures.run k (h0, h1, ()) = some (r0, ())) : impl_EqualFeatures.ap k h0 h1 K = K r0 := by unfold impl_EqualFeatures.ap; rw [h]; rfl
theorem impl_EqualFeatures.snd : Snd env impl_EqualFeatures.spec := evF_snd env_ok (sndC impl_Point.snd (sndN))
attribute [local irreducible] impl_EqualFeatures.run
theorem impl_EqualFeatures.rt (a0 : Bool) : impl_EqualFeatures.ret a0 = some (impl_EqualFeatures.toH (a0)) := rfl
theorem impl_EqualFeatures.go {k : Nat} {a0_0 : Int} {a0_1 : Int} {a0_2 : Int} {a0_3 : ByteArray} {l0_4 : List S59} {a1_0 : Int} {a1_1 : Int} {a1_2 : Int} {a1_3 : ByteArray} {l1_4 : List S59} {t} (h : impl_EqualFeatures.f k a0_0 a0_1 a0_2 a0_3 l0_4 a1_0 a1_1 a1_2 a1_3 l1_4 = some t) (K : Nat) (hK : k ≤ K) : impl_EqualFeatures.run K ((⟨a0_0, a0_1, a0_2, a0_3, l0_4⟩ : S57), (⟨a1_0, a1_1, a1_2, a1_3, l1_4⟩ : S57), ()) = some (impl_EqualFeatures.toH t) := by
  rw [impl_EqualFeatures.ef]
  (try dsimp only)
  unfold impl_EqualFeatures.f at h
  repeat' (with_reducible first
   | exact nos h
   | (cases some_inj h; exact impl_EqualFeatures.rt _)
   | (simp only [Option.bind_some] at h)
   | (refine ite_by h ?_ ?_ <;> (intro hc h; (try simp only [nrm] at hc)))
   | refine itT ?_
   | refine itF ?_
   | (refine bind_by h (fun t ht h => ?_); refine (impl_Point.ap_of (impl_Point.go ht _ (by omega))).trans ?_; (try dsimp only at h ⊢))
   | (simp only [nr2] at h ⊢)
   | (exfalso; omega))
def impl_TileBox.Fs : List (Spc env) := [impl_InRange.spec]
def impl_TileBox.cut : Nat → Option (List (Lv SC)) := lk []
def impl_TileBox.ret (r0 : S64) (r1 : Bool) : Option (HL eΓ [.st .s64, .b]) := some (r0, r1, ())
def impl_TileBox.run (k : Nat) (h : HL eΓ [.i .i64]) : Option (HL eΓ [.st .s64, .b]) := evF env impl_TileBox.Fs Tryz.f106 impl_TileBox.cut [.i .i64] [.st .s64, .b] k h
theorem impl_TileBox.ef (k : Nat) (h0 : Int) : impl_TileBox.run k (h0, ()) = impl_InRange.ap k h0 0 440 fun r1 => if (!r1) = true then (impl_TileBox.ret (⟨(⟨0, 0⟩ : S59), (⟨0, 0⟩ : S59)⟩ : S64) false) else (impl_TileBox.ret (⟨(⟨wrap64 ((Int.tmod h0 21) * 10), wrap64 ((wrap64 (tq h0 21)) * 10)⟩ : S59), (⟨(mn (wrap64 ((wrap64 ((Int.tmod h0 21) * 10)) + 10)) 200), (mn (wrap64 ((wrap64 ((wrap64 (tq h0 21)) * 10)) + 10)) 200)⟩ : S59)⟩ : S64) true) := by kernel_rfl
def impl_TileBox.toH (t : Int × Int × Int × Int × Bool) : HL eΓ [.st .s64, .b] := ((⟨(⟨t.1, t.2.1⟩ : S59), (⟨t.2.2.1, t.2.2.2.1⟩ : S59)⟩ : S64), t.2.2.2.2, ())
def impl_TileBox.spec : Spc env := ⟨106, [.i .i64], [.st .s64, .b], impl_TileBox.run⟩
def impl_TileBox.ap {R : Type} (k : Nat) (h0 : Int) (K : S64 → Bool → Option R) : Option R := (impl_TileBox.run k (h0, ())).bind fun r => K (r.1 : S64) (r.2.1 : Bool)
theorem impl_TileBox.ap_of {R : Type} {k : Nat} {h0 : Int} {r0 : S64} {r1 : Bool} {K : S64 → Bool → Option R} (h : impl_TileBox.run k (h0, ()) = some (r0, r1, ())) : impl_TileBox.ap k h0 K = K r0 r1 := by unfold impl_TileBox.ap; rw [h]; rfl
theorem impl_TileBox.snd : Snd env impl_TileBox.spec := evF_snd env_ok (sndC impl_InRange.snd (sndN))
attribute [local irreducible] impl_TileBox.run
theorem impl_TileBox.rt (a0 : Int) (a1 : Int) (a2 : Int) (a3 : Int) (a4 : Bool) : impl_TileBox.ret (⟨(⟨a0, a1⟩ : S59), (⟨a2, a3⟩ : S59)⟩ : S64) a4 = some (impl_TileBox.toH (a0, a1, a2, a3, a4)) := rfl
theorem impl_TileBox.go {a0 : Int} {t} (h : impl_TileBox.f a0 = some t) (K : Nat) : impl_TileBox.run K (a0, ()) = some (impl_TileBox.toH t) := by
  rw [impl_TileBox.ef]
  (try dsimp only)
  (try simp only [tq_nat])
  (try simp only [tq_eq])
  unfold impl_TileBox.f at h
  repeat' (with_reducible first
   | exact nos h
   | (cases some_inj h; exact impl_TileBox.rt _ _ _ _ _)
   | (simp only [Option.bind_some] at h)
   | (refine ite_by h ?_ ?_ <;> (intro hc h; (try simp only [nrm] at hc)))
   | refine itT ?_
   | refine itF ?_
   | (refine bind_by h (fun t ht h => ?_); refine (impl_InRange.ap_of (impl_InRange.go ht _)).trans ?_; (try dsimp only at h ⊢))
   | (simp only [nr2] at h ⊢)
   | (exfalso; omega))
def impl_IsBox.Fs : List (Spc env) := [impl_IsPoint.spec]
def impl_IsBox.cut : Nat → Option (List (Lv SC)) := lk []
def impl_IsBox.ret (r0 : Bool) : Option (HL eΓ [.b]) := some (r0, ())
def impl_IsBox.run (k : Nat) (h : HL eΓ [.st .s64]) : Option (HL eΓ [.b]) := evF env impl_IsBox.Fs Tryz.f96 impl_IsBox.cut [.st .s64] [.b] k h
theorem impl_IsBox.ef (k : Nat) (h0 : S64) : impl_IsBox.run k (h0, ()) = impl_IsPoint.ap k (⟨h0.f0.f0, h0.f0.f1⟩ : S59) fun r1 => if r1 = true then (impl_IsPoint.ap k (⟨h0.f1.f0, h0.f1.f1⟩ : S59) fun r2 => if r2 = true then (if h0.f0.f0 ≤ h0.f1.f0 then (impl_IsBox.ret (decide (h0.f0.f1 ≤ h0.f1.f1))) else (impl_IsBox.ret false)) else (impl_IsBox.ret false)) else (impl_IsBox.ret false) := by kernel_rfl
def impl_IsBox.toH (t : Bool) : HL eΓ [.b] := (t, ())
def impl_IsBox.spec : Spc env := ⟨96, [.st .s64], [.b], impl_IsBox.run⟩
def impl_IsBox.ap {R : Type} (k : Nat) (h0 : S64) (K : Bool → Option R) : Option R := (impl_IsBox.run k (h0, ())).bind fun r => K (r.1 : Bool)
theorem impl_IsBox.ap_of {R : Type} {k : Nat} {h0 : S64} {r0 : Bool} {K : Bool → Option R} (h : impl_IsBox.run k (h0, ()) = some (r0, ())) : impl_IsBox.ap k h0 K = K r0 := by unfold impl_IsBox.ap; rw [h]; rfl
theorem impl_IsBox.snd : Snd env impl_IsBox.spec := evF_snd env_ok (sndC impl_IsPoint.snd (sndN))
attribute [local irreducible] impl_IsBox.run
theorem impl_IsBox.rt (a0 : Bool) : impl_IsBox.ret a0 = some (impl_IsBox.toH (a0)) := rfl
theorem impl_IsBox.go {a0_0 : Int} {a0_1 : Int} {a0_2 : Int} {a0_3 : Int} {t} (h : impl_IsBox.f a0_0 a0_1 a0_2 a0_3 = some t) (K : Nat) : impl_IsBox.run K ((⟨(⟨a0_0, a0_1⟩ : S59), (⟨a0_2, a0_3⟩ : S59)⟩ : S64), ()) = some (impl_IsBox.toH t) := by
  rw [impl_IsBox.ef]
  (try dsimp only)
  unfold impl_IsBox.f at h
  repeat' (with_reducible first
   | exact nos h
   | (cases some_inj h; exact impl_IsBox.rt _)
   | (simp only [Option.bind_some] at h)
   | (refine ite_by h ?_ ?_ <;> (intro hc h; (try simp only [nrm] at hc)))
   | refine itT ?_
   | refine itF ?_
   | (refine bind_by h (fun t ht h => ?_); refine (impl_IsPoint.ap_of (impl_IsPoint.go ht _)).trans ?_; (try dsimp only at h ⊢))
   | (simp only [nr2] at h ⊢)
   | (exfalso; omega))
def impl_InBox.Fs : List (Spc env) := [impl_IsBox.spec, impl_InRange.spec]
def impl_InBox.cut : Nat → Option (List (Lv SC)) := lk []
def impl_InBox.ret (r0 : Bool) : Option (HL eΓ [.b]) := some (r0, ())
def impl_InBox.run (k : Nat) (h : HL eΓ [.st .s64, .st .s59]) : Option (HL eΓ [.b]) := evF env impl_InBox.Fs Tryz.f143 impl_InBox.cut [.st .s64, .st .s59] [.b] k h
theorem impl_InBox.ef (k : Nat) (h0 : S64) (h1 : S59) : impl_InBox.run k (h0, h1, ()) = impl_IsBox.ap k (⟨(⟨h0.f0.f0, h0.f0.f1⟩ : S59), (⟨h0.f1.f0, h0.f1.f1⟩ : S59)⟩ : S64) fun r1 => if r1 = true then (impl_InRange.ap k h1.f0 h0.f0.f0 h0.f1.f0 fun r2 => if r2 = true then (impl_InRange.ap k h1.f1 h0.f0.f1 h0.f1.f1 fun r3 => impl_InBox.ret r3) else (impl_InBox.ret false)) else (impl_InBox.ret false) := by kernel_rfl
def impl_InBox.toH (t : Bool) : HL eΓ [.b] := (t, ())
def impl_InBox.spec : Spc env := ⟨143, [.st .s64, .st .s59], [.b], impl_InBox.run⟩
def impl_InBox.ap {R : Type} (k : Nat) (h0 : S64) (h1 : S59) (K : Bool → Option R) : Option R := (impl_InBox.run k (h0, h1, ())).bind fun r => K (r.1 : Bool)
theorem impl_InBox.ap_of {R : Type} {k : Nat} {h0 : S64} {h1 : S59} {r0 : Bool} {K : Bool → Option R} (h : impl_InBox.run k (h0, h1, ()) = some (r0, ())) : impl_InBox.ap k h0 h1 K = K r0 := by unfold impl_InBox.ap; rw [h]; rfl
theorem impl_InBox.snd : Snd env impl_InBox.spec := evF_snd env_ok (sndC impl_IsBox.snd (sndC impl_InRange.snd (sndN)))
attribute [local irreducible] impl_InBox.run
theorem impl_InBox.rt (a0 : Bool) : impl_InBox.ret a0 = some (impl_InBox.toH (a0)) := rfl
theorem impl_InBox.go {a0_0 : Int} {a0_1 : Int} {a0_2 : Int} {a0_3 : Int} {a1_0 : Int} {a1_1 : Int} {t} (h : impl_InBox.f a0_0 a0_1 a0_2 a0_3 a1_0 a1_1 = some t) (K : Nat) : impl_InBox.run K ((⟨(⟨a0_0, a0_1⟩ : S59), (⟨a0_2, a0_3⟩ : S59)⟩ : S64), (⟨a1_0, a1_1⟩ : S59), ()) = some (impl_InBox.toH t) := by
  rw [impl_InBox.ef]
  (try dsimp only)
  unfold impl_InBox.f at h
  repeat' (with_reducible first
   | exact nos h
   | (cases some_inj h; exact impl_InBox.rt _)
   | (simp only [Option.bind_some] at h)
   | (refine ite_by h ?_ ?_ <;> (intro hc h; (try simp only [nrm] at hc)))
   | refine itT ?_
   | refine itF ?_
   | (refine bind_by h (fun t ht h => ?_); (first | refine (impl_IsBox.ap_of (impl_IsBox.go ht _)).trans ?_ | refine (impl_InRange.ap_of (impl_InRange.go ht _)).trans ?_); (try dsimp only at h ⊢))
   | (simp only [nr2] at h ⊢)
   | (exfalso; omega))
def impl_RingSegments.Fs : List (Spc env) := [impl_IsRing.spec, impl_around.spec]
def impl_RingSegments.cut : Nat → Option (List (Lv SC)) := lk []
def impl_RingSegments.ret (r0 : List S149) : Option (HL eΓ [.l 149 (.st .s149)]) := some (r0, ())
def impl_RingSegments.run (k : Nat) (h : HL eΓ [.l 59 (.st .s59)]) : Option (HL eΓ [.l 149 (.st .s149)]) := evF env impl_RingSegments.Fs Tryz.f189 impl_RingSegments.cut [.l 59 (.st .s59)] [.l 149 (.st .s149)] k h
theorem impl_RingSegments.ef (k : Nat) (h0 : List S59) : impl_RingSegments.run k (h0, ()) = impl_IsRing.ap k h0 fun r1 => if (!r1) = true then (impl_RingSegments.ret ([] : List S149)) else (impl_around.ap k h0 fun r2 => impl_RingSegments.ret r2) := by kernel_rfl
def impl_RingSegments.toH (t : (List (S149))) : HL eΓ [.l 149 (.st .s149)] := (t, ())
def impl_RingSegments.spec : Spc env := ⟨189, [.l 59 (.st .s59)], [.l 149 (.st .s149)], impl_RingSegments.run⟩
def impl_RingSegments.ap {R : Type} (k : Nat) (h0 : List S59) (K : (List S149) → Option R) : Option R := (impl_RingSegments.run k (h0, ())).bind fun r => K (r.1 : List S149)
theorem impl_RingSegments.ap_of {R : Type} {k : Nat} {h0 : List S59} {r0 : List S149} {K : (List S149) → Option R} (h : impl_RingSegments.run k (h0, ()) = some (r0, ())) : impl_RingSegments.ap k h0 K = K r0 := by unfold impl_RingSegments.ap; rw [h]; rfl
theorem impl_RingSegments.snd : Snd env impl_RingSegments.spec := evF_snd env_ok (sndC impl_IsRing.snd (sndC impl_around.snd (sndN)))
attribute [local irreducible] impl_RingSegments.run
theorem impl_RingSegments.rt (a0 : List S149) : impl_RingSegments.ret a0 = some (impl_RingSegments.toH (a0)) := rfl
theorem impl_RingSegments.go {k : Nat} {l0 : List S59} {t} (h : impl_RingSegments.f k l0 = some t) (K : Nat) (hK : k ≤ K) : impl_RingSegments.run K (l0, ()) = some (impl_RingSegments.toH t) := by
  rw [impl_RingSegments.ef]
  (try dsimp only)
  unfold impl_RingSegments.f at h
  repeat' (with_reducible first
   | exact nos h
   | (cases some_inj h; exact impl_RingSegments.rt _)
   | (simp only [Option.bind_some] at h)
   | (refine ite_by h ?_ ?_ <;> (intro hc h; (try simp only [nrm] at hc)))
   | refine itT ?_
   | refine itF ?_
   | (refine bind_by h (fun t ht h => ?_); (first | refine (impl_IsRing.ap_of (impl_IsRing.go ht _ (by omega))).trans ?_ | refine (impl_around.ap_of (impl_around.go ht _ (by omega))).trans ?_); (try dsimp only at h ⊢))
   | (simp only [nr2] at h ⊢)
   | (exfalso; omega))
def impl_PartsOf.Fs : List (Spc env) := [impl_IsFeature.spec, impl_SegmentsOf.spec, impl_RingSegments.spec]
def impl_PartsOf.cut : Nat → Option (List (Lv SC)) := lk []
def impl_PartsOf.ret (r0 : List S149) : Option (HL eΓ [.l 149 (.st .s149)]) := some (r0, ())
def impl_PartsOf.run (k : Nat) (h : HL eΓ [.st .s57]) : Option (HL eΓ [.l 149 (.st .s149)]) := evF env impl_PartsOf.Fs Tryz.f144 impl_PartsOf.cut [.st .s57] [.l 149 (.st .s149)] k h
theorem impl_PartsOf.ef (k : Nat) (h0 : S57) : impl_PartsOf.run k (h0, ()) = impl_IsFeature.ap k (⟨h0.f0, h0.f1, h0.f2, h0.f3, h0.f4⟩ : S57) fun r1 => if r1 = true then (if h0.f1 = 2 then (impl_SegmentsOf.ap k h0.f4 fun r2 => impl_PartsOf.ret r2) else (if h0.f1 = 3 then (impl_RingSegments.ap k h0.f4 fun r3 => impl_PartsOf.ret r3) else (impl_PartsOf.ret ([] : List S149)))) else (impl_PartsOf.ret ([] : List S149)) := by kernel_rfl
def impl_PartsOf.toH (t : (List (S149))) : HL eΓ [.l 149 (.st .s149)] := (t, ())
def impl_PartsOf.spec : Spc env := ⟨144, [.st .s57], [.l 149 (.st .s149)], impl_PartsOf.run⟩
def impl_PartsOf.ap {R : Type} (k : Nat) (h0 : S57) (K : (List S149) → Option R) : Option R := (impl_PartsOf.run k (h0, ())).bind fun r => K (r.1 : List S149)
theorem impl_PartsOf.ap_of {R : Type} {k : Nat} {h0 : S57} {r0 : List S149} {K : (List S149) → Option R} (h : impl_PartsOf.run k (h0, ()) = some (r0, ())) : impl_PartsOf.ap k h0 K = K r0 := by unfold impl_PartsOf.ap; rw [h]; rfl
theorem impl_PartsOf.snd : Snd env impl_PartsOf.spec := evF_snd env_ok (sndC impl_IsFeature.snd (sndC impl_SegmentsOf.snd (sndC impl_RingSegments.snd (sndN))))
attribute [local irreducible] impl_PartsOf.run
theorem impl_PartsOf.rt (a0 : List S149) : impl_PartsOf.ret a0 = some (impl_PartsOf.toH (a0)) := rfl
theorem impl_PartsOf.go {k : Nat} {a0_0 : Int} {a0_1 : Int} {a0_2 : Int} {a0_3 : ByteArray} {l0_4 : List S59} {t} (h : impl_PartsOf.f k a0_0 a0_1 a0_2 a0_3 l0_4 = some t) (K : Nat) (hK : k ≤ K) : impl_PartsOf.run K ((⟨a0_0, a0_1, a0_2, a0_3, l0_4⟩ : S57), ()) = some (impl_PartsOf.toH t) := by
  rw [impl_PartsOf.ef]
  (try dsimp only)
  unfold impl_PartsOf.f at h
  repeat' (with_reducible first
   | exact nos h
   | (cases some_inj h; exact impl_PartsOf.rt _)
   | (simp only [Option.bind_some] at h)
   | (refine ite_by h ?_ ?_ <;> (intro hc h; (try simp only [nrm] at hc)))
   | refine itT ?_
   | refine itF ?_
   | (refine bind_by h (fun t ht h => ?_); (first | refine (impl_IsFeature.ap_of (impl_IsFeature.go ht _ (by omega))).trans ?_ | refine (impl_SegmentsOf.ap_of (impl_SegmentsOf.go ht _ (by omega))).trans ?_ | refine (impl_RingSegments.ap_of (impl_RingSegments.go ht _ (by omega))).trans ?_); (try dsimp only at h ⊢))
   | (simp only [nr2] at h ⊢)
   | (exfalso; omega))
def impl_BoxOf.Fs : List (Spc env) := [impl_IsPoint.spec]
def impl_BoxOf.fin : St eΓ → Option (HL eΓ [.st .s64, .b]) := finR env Tryz.f190.results.toList [.st .s64, .b]
def impl_BoxOf.cut : Nat → Option (List (Lv SC)) := lk [(5, [⟨2, none, false⟩, ⟨4, none, false⟩, ⟨18, none, false⟩, ⟨19, none, false⟩, ⟨20, none, false⟩])]
def impl_BoxOf.ret (r0 : S64) (r1 : Bool) : Option (HL eΓ [.st .s64, .b]) := some (r0, r1, ())
def impl_BoxOf.p5 (k : Nat) (x19 : Int) (x20 : Int) (b0_0 : Int) (b0_1 : Int) (b0_2 : Int) (b0_3 : Int) (b1_0 : Int) (b1_1 : Int) (b1_2 : Int) (b1_3 : Int) (x18 : List S59) : Option (HL eΓ [.st .s64, .b]) := evM env impl_BoxOf.Fs Tryz.f190.ntmps impl_BoxOf.fin impl_BoxOf.cut k [.code (sub_ [1, 1, 1, 0, 1, 0, 0, 0] (bodyOf Tryz.f190)), .code (sub_ [1, 1, 1, 0, 1, 0, 0, 1] (bodyOf Tryz.f190)), .lp (sub_ [1, 1, 1, 0, 1, 0, 0] (bodyOf Tryz.f190)), .blk 0, .code (sub_ [1, 1, 1, 1] (bodyOf Tryz.f190))] (mkSt [(2, .c (.ptr 0 0)), (4, .c (.ptr 1 0)), (18, .c (.sl 2)), (19, .c (.v (.int .i64 x19))), (20, .c (.v (.int .i64 x20)))] [.box 64 [.v (.int .i64 b0_0), .v (.int .i64 b0_1), .v (.int .i64 b0_2), .v (.int .i64 b0_3)], .box 64 [.v (.int .i64 b1_0), .v (.int .i64 b1_1), .v (.int .i64 b1_2), .v (.int .i64 b1_3)], .row .ro 59 (.st .s59) x18])
theorem impl_BoxOf.e5 (k : Nat) (x19 : Int) (x20 : Int) (b0_0 : Int) (b0_1 : Int) (b0_2 : Int) (b0_3 : Int) (b1_0 : Int) (b1_1 : Int) (b1_2 : Int) (b1_3 : Int) (x18 : List S59) : impl_BoxOf.p5 (k + 1) x19 x20 b0_0 b0_1 b0_2 b0_3 b1_0 b1_1 b1_2 b1_3 x18 = if x20 < x19 then (if 0 ≤ x20 then (if x20 < (x18.length : Int) then (impl_IsPoint.ap k (⟨(rd_T59 x18 x20).f0, (rd_T59 x18 x20).f1⟩ : S59) fun r1 => if (!r1) = true then (impl_BoxOf.ret (⟨(⟨0, 0⟩ : S59), (⟨0, 0⟩ : S59)⟩ : S64) false) else (impl_BoxOf.p5 k x19 (wrap64 (x20 + 1)) b0_0 b0_1 b0_2 b0_3 (mn b1_0 ((rd_T59 x18 x20).f0)) (mn b1_1 ((rd_T59 x18 x20).f1)) (mx b1_2 ((rd_T59 x18 x20).f0)) (mx b1_3 ((rd_T59 x18 x20).f1)) x18)) else none) else none) else (impl_BoxOf.ret (⟨(⟨b1_0, b1_1⟩ : S59), (⟨b1_2, b1_3⟩ : S59)⟩ : S64) true) := by kernel_rfl
def impl_BoxOf.run (k : Nat) (h : HL eΓ [.l 59 (.st .s59)]) : Option (HL eΓ [.st .s64, .b]) := evF env impl_BoxOf.Fs Tryz.f190 impl_BoxOf.cut [.l 59 (.st .s59)] [.st .s64, .b] k h
theorem impl_BoxOf.ef (k : Nat) (h0 : List S59) : impl_BoxOf.run k (h0, ()) = if (h0.length : Int) = 0 then (impl_BoxOf.ret (⟨(⟨0, 0⟩ : S59), (⟨0, 0⟩ : S59)⟩ : S64) false) else (if 0 < (h0.length : Int) then (if 0 < (h0.length : Int) then (impl_BoxOf.p5 k (h0.length : Int) 0 0 0 0 0 ((rd_T59 h0 0).f0) ((rd_T59 h0 0).f1) ((rd_T59 h0 0).f0) ((rd_T59 h0 0).f1) h0) else none) else none) := by kernel_rfl
def impl_BoxOf.toH (t : Int × Int × Int × Int × Bool) : HL eΓ [.st .s64, .b] := ((⟨(⟨t.1, t.2.1⟩ : S59), (⟨t.2.2.1, t.2.2.2.1⟩ : S59)⟩ : S64), t.2.2.2.2, ())
def impl_BoxOf.spec : Spc env := ⟨190, [.l 59 (.st .s59)], [.st .s64, .b], impl_BoxOf.run⟩
def impl_BoxOf.ap {R : Type} (k : Nat) (h0 : List S59) (K : S64 → Bool → Option R) : Option R := (impl_BoxOf.run k (h0, ())).bind fun r => K (r.1 : S64) (r.2.1 : Bool)
theorem impl_BoxOf.ap_of {R : Type} {k : Nat} {h0 : List S59} {r0 : S64} {r1 : Bool} {K : S64 → Bool → Option R} (h : impl_BoxOf.run k (h0, ()) = some (r0, r1, ())) : impl_BoxOf.ap k h0 K = K r0 r1 := by unfold impl_BoxOf.ap; rw [h]; rfl
theorem impl_BoxOf.snd : Snd env impl_BoxOf.spec := evF_snd env_ok (sndC impl_IsPoint.snd (sndN))
attribute [local irreducible] impl_BoxOf.run
theorem impl_BoxOf.rt (a0 : Int) (a1 : Int) (a2 : Int) (a3 : Int) (a4 : Bool) : impl_BoxOf.ret (⟨(⟨a0, a1⟩ : S59), (⟨a2, a3⟩ : S59)⟩ : S64) a4 = some (impl_BoxOf.toH (a0, a1, a2, a3, a4)) := rfl
theorem impl_BoxOf.br (n : Nat) : (∀ K, n ≤ K → ∀ (x19 : Int) (x20 : Int) (b0_0 : Int) (b0_1 : Int) (b0_2 : Int) (b0_3 : Int) (b1_0 : Int) (b1_1 : Int) (b1_2 : Int) (b1_3 : Int) (x18 : List S59) t, impl_BoxOf.l0 n x18 x19 x20 b1_0 b1_1 b1_2 b1_3 = some t → impl_BoxOf.p5 K x19 x20 b0_0 b0_1 b0_2 b0_3 b1_0 b1_1 b1_2 b1_3 x18 = some (impl_BoxOf.toH t)) := by
  induction n using Nat.strongRecOn with
  | _ n ih =>
  intro K hK x19 x20 b0_0 b0_1 b0_2 b0_3 b1_0 b1_1 b1_2 b1_3 x18 t h
  all_goals (rcases n with _ | k)
  all_goals (try (exact nos h))
  all_goals (obtain ⟨K, rfl⟩ : ∃ q, K = q + 1 := ⟨K - 1, by omega⟩)
  all_goals (first | rw [impl_BoxOf.e5])
  all_goals (simp only [impl_BoxOf.l0] at h)
  repeat' (with_reducible first
   | exact nos h
   | (cases some_inj h; exact impl_BoxOf.rt _ _ _ _ _)
   | exact (ih _ (by omega)) _ (by omega) _ _ _ _ _ _ _ _ _ _ _ _ h
   | (simp only [Option.bind_some] at h)
   | (refine ite_by h ?_ ?_ <;> (intro hc h; (try simp only [nrm] at hc)))
   | refine itT ?_
   | refine itF ?_
   | (refine bind_by h (fun t ht h => ?_); refine (impl_IsPoint.ap_of (impl_IsPoint.go ht _)).trans ?_; (try dsimp only at h ⊢))
   | (simp only [nr2] at h ⊢)
   | (exfalso; omega))
theorem impl_BoxOf.go {k : Nat} {l0 : List S59} {t} (h : impl_BoxOf.f k l0 = some t) (K : Nat) (hK : k ≤ K) : impl_BoxOf.run K (l0, ()) = some (impl_BoxOf.toH t) := by
  rw [impl_BoxOf.ef]
  (try dsimp only)
  unfold impl_BoxOf.f at h
  repeat' (with_reducible first
   | exact nos h
   | (cases some_inj h; exact impl_BoxOf.rt _ _ _ _ _)
   | exact (impl_BoxOf.br _) _ (by omega) _ _ _ _ _ _ _ _ _ _ _ _ h
   | (simp only [Option.bind_some] at h)
   | (refine ite_by h ?_ ?_ <;> (intro hc h; (try simp only [nrm] at hc)))
   | refine itT ?_
   | refine itF ?_
   | (refine bind_by h (fun t ht h => ?_); refine (impl_IsPoint.ap_of (impl_IsPoint.go ht _)).trans ?_; (try dsimp only at h ⊢))
   | (simp only [nr2] at h ⊢)
   | (exfalso; omega))
def impl_common.Fs : List (Spc env) := []
def impl_common.cut : Nat → Option (List (Lv SC)) := lk []
def impl_common.ret (r0 : Int) (r1 : Int) : Option (HL eΓ [.i .i64, .i .i64]) := some (r0, r1, ())
def impl_common.run (k : Nat) (h : HL eΓ [.st .s64, .st .s64]) : Option (HL eΓ [.i .i64, .i .i64]) := evF env impl_common.Fs Tryz.f178 impl_common.cut [.st .s64, .st .s64] [.i .i64, .i .i64] k h
theorem impl_common.ef (k : Nat) (h0 : S64) (h1 : S64) : impl_common.run k (h0, h1, ()) = impl_common.ret (wrap64 ((mn h0.f1.f0 h1.f1.f0) - (mx h0.f0.f0 h1.f0.f0))) (wrap64 ((mn h0.f1.f1 h1.f1.f1) - (mx h0.f0.f1 h1.f0.f1))) := by kernel_rfl
def impl_common.toH (t : Int × Int) : HL eΓ [.i .i64, .i .i64] := (t.1, t.2, ())
def impl_common.spec : Spc env := ⟨178, [.st .s64, .st .s64], [.i .i64, .i .i64], impl_common.run⟩
def impl_common.ap {R : Type} (k : Nat) (h0 : S64) (h1 : S64) (K : Int → Int → Option R) : Option R := (impl_common.run k (h0, h1, ())).bind fun r => K (r.1 : Int) (r.2.1 : Int)
theorem impl_common.ap_of {R : Type} {k : Nat} {h0 : S64} {h1 : S64} {r0 : Int} {r1 : Int} {K : Int → Int → Option R} (h : impl_common.run k (h0, h1, ()) = some (r0, r1, ())) : impl_common.ap k h0 h1 K = K r0 r1 := by unfold impl_common.ap; rw [h]; rfl
theorem impl_common.snd : Snd env impl_common.spec := evF_snd env_ok (sndN)
attribute [local irreducible] impl_common.run
theorem impl_common.rt (a0 : Int) (a1 : Int) : impl_common.ret a0 a1 = some (impl_common.toH (a0, a1)) := rfl
theorem impl_common.go {a0_0 : Int} {a0_1 : Int} {a0_2 : Int} {a0_3 : Int} {a1_0 : Int} {a1_1 : Int} {a1_2 : Int} {a1_3 : Int} {t} (h : impl_common.f a0_0 a0_1 a0_2 a0_3 a1_0 a1_1 a1_2 a1_3 = some t) (K : Nat) : impl_common.run K ((⟨(⟨a0_0, a0_1⟩ : S59), (⟨a0_2, a0_3⟩ : S59)⟩ : S64), (⟨(⟨a1_0, a1_1⟩ : S59), (⟨a1_2, a1_3⟩ : S59)⟩ : S64), ()) = some (impl_common.toH t) := by
  rw [impl_common.ef]
  (try dsimp only)
  unfold impl_common.f at h
  repeat' (with_reducible first
   | exact nos h
   | (cases some_inj h; exact impl_common.rt _ _)
   | (simp only [Option.bind_some] at h)
   | (refine ite_by h ?_ ?_ <;> (intro hc h; (try simp only [nrm] at hc)))
   | refine itT ?_
   | refine itF ?_
   | (simp only [nr2] at h ⊢)
   | (exfalso; omega))
def impl_BoxesMeet.Fs : List (Spc env) := [impl_common.spec, impl_IsBox.spec]
def impl_BoxesMeet.cut : Nat → Option (List (Lv SC)) := lk []
def impl_BoxesMeet.ret (r0 : Bool) : Option (HL eΓ [.b]) := some (r0, ())
def impl_BoxesMeet.run (k : Nat) (h : HL eΓ [.st .s64, .st .s64]) : Option (HL eΓ [.b]) := evF env impl_BoxesMeet.Fs Tryz.f191 impl_BoxesMeet.cut [.st .s64, .st .s64] [.b] k h
theorem impl_BoxesMeet.ef (k : Nat) (h0 : S64) (h1 : S64) : impl_BoxesMeet.run k (h0, h1, ()) = impl_common.ap k (⟨(⟨h0.f0.f0, h0.f0.f1⟩ : S59), (⟨h0.f1.f0, h0.f1.f1⟩ : S59)⟩ : S64) (⟨(⟨h1.f0.f0, h1.f0.f1⟩ : S59), (⟨h1.f1.f0, h1.f1.f1⟩ : S59)⟩ : S64) fun r1_0 r1_1 => impl_IsBox.ap k (⟨(⟨h0.f0.f0, h0.f0.f1⟩ : S59), (⟨h0.f1.f0, h0.f1.f1⟩ : S59)⟩ : S64) fun r2 => if r2 = true then (impl_IsBox.ap k (⟨(⟨h1.f0.f0, h1.f0.f1⟩ : S59), (⟨h1.f1.f0, h1.f1.f1⟩ : S59)⟩ : S64) fun r3 => if r3 = true then (if r1_0 ≥ 0 then (impl_BoxesMeet.ret (decide (r1_1 ≥ 0))) else (impl_BoxesMeet.ret false)) else (impl_BoxesMeet.ret false)) else (impl_BoxesMeet.ret false) := by kernel_rfl
def impl_BoxesMeet.toH (t : Bool) : HL eΓ [.b] := (t, ())
def impl_BoxesMeet.spec : Spc env := ⟨191, [.st .s64, .st .s64], [.b], impl_BoxesMeet.run⟩
def impl_BoxesMeet.ap {R : Type} (k : Nat) (h0 : S64) (h1 : S64) (K : Bool → Option R) : Option R := (impl_BoxesMeet.run k (h0, h1, ())).bind fun r => K (r.1 : Bool)
theorem impl_BoxesMeet.ap_of {R : Type} {k : Nat} {h0 : S64} {h1 : S64} {r0 : Bool} {K : Bool → Option R} (h : impl_BoxesMeet.run k (h0, h1, ()) = some (r0, ())) : impl_BoxesMeet.ap k h0 h1 K = K r0 := by unfold impl_BoxesMeet.ap; rw [h]; rfl
theorem impl_BoxesMeet.snd : Snd env impl_BoxesMeet.spec := evF_snd env_ok (sndC impl_common.snd (sndC impl_IsBox.snd (sndN)))
attribute [local irreducible] impl_BoxesMeet.run
theorem impl_BoxesMeet.rt (a0 : Bool) : impl_BoxesMeet.ret a0 = some (impl_BoxesMeet.toH (a0)) := rfl
theorem impl_BoxesMeet.go {a0_0 : Int} {a0_1 : Int} {a0_2 : Int} {a0_3 : Int} {a1_0 : Int} {a1_1 : Int} {a1_2 : Int} {a1_3 : Int} {t} (h : impl_BoxesMeet.f a0_0 a0_1 a0_2 a0_3 a1_0 a1_1 a1_2 a1_3 = some t) (K : Nat) : impl_BoxesMeet.run K ((⟨(⟨a0_0, a0_1⟩ : S59), (⟨a0_2, a0_3⟩ : S59)⟩ : S64), (⟨(⟨a1_0, a1_1⟩ : S59), (⟨a1_2, a1_3⟩ : S59)⟩ : S64), ()) = some (impl_BoxesMeet.toH t) := by
  rw [impl_BoxesMeet.ef]
  (try dsimp only)
  unfold impl_BoxesMeet.f at h
  repeat' (with_reducible first
   | exact nos h
   | (cases some_inj h; exact impl_BoxesMeet.rt _)
   | (simp only [Option.bind_some] at h)
   | (refine ite_by h ?_ ?_ <;> (intro hc h; (try simp only [nrm] at hc)))
   | refine itT ?_
   | refine itF ?_
   | (refine bind_by h (fun t ht h => ?_); (first | refine (impl_common.ap_of (impl_common.go ht _)).trans ?_ | refine (impl_IsBox.ap_of (impl_IsBox.go ht _)).trans ?_); (try dsimp only at h ⊢))
   | (simp only [nr2] at h ⊢)
   | (exfalso; omega))
def impl_MeetsBox.Fs : List (Spc env) := [impl_IsSegment.spec, impl_IsBox.spec, impl_BoxOf.spec, impl_BoxesMeet.spec, impl_SideOf.spec]
def impl_MeetsBox.fin : St eΓ → Option (HL eΓ [.b]) := finR env Tryz.f145.results.toList [.b]
def impl_MeetsBox.cut : Nat → Option (List (Lv SC)) := lk [(8, [⟨2, none, false⟩, ⟨7, none, false⟩, ⟨8, none, false⟩, ⟨50, none, false⟩, ⟨51, none, false⟩, ⟨52, none, false⟩])]
def impl_MeetsBox.ret (r0 : Bool) : Option (HL eΓ [.b]) := some (r0, ())
def impl_MeetsBox.p8 (k : Nat) (x7 : Int) (x8 : Int) (x51 : Int) (x52 : Int) (b0_0 : Int) (b0_1 : Int) (b0_2 : Int) (b0_3 : Int) (x50 : List S59) : Option (HL eΓ [.b]) := evM env impl_MeetsBox.Fs Tryz.f145.ntmps impl_MeetsBox.fin impl_MeetsBox.cut k [.code (sub_ [1, 1, 1, 1, 0, 1, 0, 0, 0] (bodyOf Tryz.f145)), .code (sub_ [1, 1, 1, 1, 0, 1, 0, 0, 1] (bodyOf Tryz.f145)), .lp (sub_ [1, 1, 1, 1, 0, 1, 0, 0] (bodyOf Tryz.f145)), .blk 0, .code (sub_ [1, 1, 1, 1, 1] (bodyOf Tryz.f145))] (mkSt [(2, .c (.ptr 0 0)), (7, .c (.v (.int .i64 x7))), (8, .c (.v (.int .i64 x8))), (50, .c (.sl 1)), (51, .c (.v (.int .i64 x51))), (52, .c (.v (.int .i64 x52)))] [.box 149 [.v (.int .i64 b0_0), .v (.int .i64 b0_1), .v (.int .i64 b0_2), .v (.int .i64 b0_3)], .row .own 59 (.st .s59) x50])
theorem impl_MeetsBox.e8 (k : Nat) (x7 : Int) (x8 : Int) (x51 : Int) (x52 : Int) (b0_0 : Int) (b0_1 : Int) (b0_2 : Int) (b0_3 : Int) (x50 : List S59) : impl_MeetsBox.p8 (k + 1) x7 x8 x51 x52 b0_0 b0_1 b0_2 b0_3 x50 = if x52 < x51 then (if 0 ≤ x52 then (if x52 < (x50.length : Int) then (impl_SideOf.ap k (⟨b0_0, b0_1⟩ : S59) (⟨b0_2, b0_3⟩ : S59) (⟨(rd_T59 x50 x52).f0, (rd_T59 x50 x52).f1⟩ : S59) fun r1 => if r1 = 1 then (impl_MeetsBox.p8 k (wrap64 (x7 + 1)) x8 x51 (wrap64 (x52 + 1)) b0_0 b0_1 b0_2 b0_3 x50) else (if r1 = (-1) then (impl_MeetsBox.p8 k x7 (wrap64 (x8 + 1)) x51 (wrap64 (x52 + 1)) b0_0 b0_1 b0_2 b0_3 x50) else (impl_MeetsBox.p8 k x7 x8 x51 (wrap64 (x52 + 1)) b0_0 b0_1 b0_2 b0_3 x50))) else none) else none) else (if x7 < 4 then (impl_MeetsBox.ret (decide (x8 < 4))) else (impl_MeetsBox.ret false)) := by kernel_rfl
def impl_MeetsBox.run (k : Nat) (h : HL eΓ [.st .s149, .st .s64]) : Option (HL eΓ [.b]) := evF env impl_MeetsBox.Fs Tryz.f145 impl_MeetsBox.cut [.st .s149, .st .s64] [.b] k h
theorem impl_MeetsBox.ef (k : Nat) (h0 : S149) (h1 : S64) : impl_MeetsBox.run k (h0, h1, ()) = impl_IsSegment.ap k (⟨(⟨h0.f0.f0, h0.f0.f1⟩ : S59), (⟨h0.f1.f0, h0.f1.f1⟩ : S59)⟩ : S149) fun r1 => if (!r1) = true then (impl_MeetsBox.ret false) else (impl_IsBox.ap k (⟨(⟨h1.f0.f0, h1.f0.f1⟩ : S59), (⟨h1.f1.f0, h1.f1.f1⟩ : S59)⟩ : S64) fun r2 => if (!r2) = true then (impl_MeetsBox.ret false) else (impl_BoxOf.ap k ([(⟨h0.f0.f0, h0.f0.f1⟩ : S59), (⟨h0.f1.f0, h0.f1.f1⟩ : S59)] : List S59) fun r3_0 r3_1 => impl_BoxesMeet.ap k (⟨(⟨r3_0.f0.f0, r3_0.f0.f1⟩ : S59), (⟨r3_0.f1.f0, r3_0.f1.f1⟩ : S59)⟩ : S64) (⟨(⟨h1.f0.f0, h1.f0.f1⟩ : S59), (⟨h1.f1.f0, h1.f1.f1⟩ : S59)⟩ : S64) fun r4 => if (!r4) = true then (impl_MeetsBox.ret false) else (impl_MeetsBox.p8 k 0 0 4 0 h0.f0.f0 h0.f0.f1 h0.f1.f0 h0.f1.f1 ([(⟨h1.f0.f0, h1.f0.f1⟩ : S59), (⟨h1.f1.f0, h1.f1.f1⟩ : S59), (⟨h1.f0.f0, h1.f1.f1⟩ : S59), (⟨h1.f1.f0, h1.f0.f1⟩ : S59)] : List S59)))) := by kernel_rfl
def impl_MeetsBox.toH (t : Bool) : HL eΓ [.b] := (t, ())
def impl_MeetsBox.spec : Spc env := ⟨145, [.st .s149, .st .s64], [.b], impl_MeetsBox.run⟩
def impl_MeetsBox.ap {R : Type} (k : Nat) (h0 : S149) (h1 : S64) (K : Bool → Option R) : Option R := (impl_MeetsBox.run k (h0, h1, ())).bind fun r => K (r.1 : Bool)
theorem impl_MeetsBox.ap_of {R : Type} {k : Nat} {h0 : S149} {h1 : S64} {r0 : Bool} {K : Bool → Option R} (h : impl_MeetsBox.run k (h0, h1, ()) = some (r0, ())) : impl_MeetsBox.ap k h0 h1 K = K r0 := by unfold impl_MeetsBox.ap; rw [h]; rfl
theorem impl_MeetsBox.snd : Snd env impl_MeetsBox.spec := evF_snd env_ok (sndC impl_IsSegment.snd (sndC impl_IsBox.snd (sndC impl_BoxOf.snd (sndC impl_BoxesMeet.snd (sndC impl_SideOf.snd (sndN))))))
attribute [local irreducible] impl_MeetsBox.run
theorem impl_MeetsBox.rt (a0 : Bool) : impl_MeetsBox.ret a0 = some (impl_MeetsBox.toH (a0)) := rfl
theorem impl_MeetsBox.br (n : Nat) : (∀ K, n ≤ K → ∀ (x7 : Int) (x8 : Int) (x51 : Int) (x52 : Int) (b0_0 : Int) (b0_1 : Int) (b0_2 : Int) (b0_3 : Int) (x50 : List S59) t, impl_MeetsBox.l0 n x7 x8 x50 x51 x52 b0_0 b0_1 b0_2 b0_3 = some t → impl_MeetsBox.p8 K x7 x8 x51 x52 b0_0 b0_1 b0_2 b0_3 x50 = some (impl_MeetsBox.toH t)) := by
  induction n using Nat.strongRecOn with
  | _ n ih =>
  intro K hK x7 x8 x51 x52 b0_0 b0_1 b0_2 b0_3 x50 t h
  all_goals (rcases n with _ | k)
  all_goals (try (exact nos h))
  all_goals (obtain ⟨K, rfl⟩ : ∃ q, K = q + 1 := ⟨K - 1, by omega⟩)
  all_goals (first | rw [impl_MeetsBox.e8])
  all_goals (simp only [impl_MeetsBox.l0] at h)
  repeat' (with_reducible first
   | exact nos h
   | (cases some_inj h; exact impl_MeetsBox.rt _)
   | exact (ih _ (by omega)) _ (by omega) _ _ _ _ _ _ _ _ _ _ h
   | ((have q : impl_MeetsBox.j0 k _ _ _ _ _ _ _ _ _ = some _ := h; clear q); rcases k with _ | k <;> simp only [impl_MeetsBox.j0, reduceCtorEq] at h)
   | (simp only [Option.bind_some] at h)
   | (refine ite_by h ?_ ?_ <;> (intro hc h; (try simp only [nrm] at hc)))
   | refine itT ?_
   | refine itF ?_
   | (refine bind_by h (fun t ht h => ?_); (first | refine (impl_IsSegment.ap_of (impl_IsSegment.go ht _)).trans ?_ | refine (impl_IsBox.ap_of (impl_IsBox.go ht _)).trans ?_ | refine (impl_BoxOf.ap_of (impl_BoxOf.go ht _ (by omega))).trans ?_ | refine (impl_BoxesMeet.ap_of (impl_BoxesMeet.go ht _)).trans ?_ | refine (impl_SideOf.ap_of (impl_SideOf.go ht _)).trans ?_); (try dsimp only at h ⊢))
   | (simp only [nr2] at h ⊢)
   | (exfalso; omega))
theorem impl_MeetsBox.go {k : Nat} {a0_0 : Int} {a0_1 : Int} {a0_2 : Int} {a0_3 : Int} {a1_0 : Int} {a1_1 : Int} {a1_2 : Int} {a1_3 : Int} {t} (h : impl_MeetsBox.f k a0_0 a0_1 a0_2 a0_3 a1_0 a1_1 a1_2 a1_3 = some t) (K : Nat) (hK : k ≤ K) : impl_MeetsBox.run K ((⟨(⟨a0_0, a0_1⟩ : S59), (⟨a0_2, a0_3⟩ : S59)⟩ : S149), (⟨(⟨a1_0, a1_1⟩ : S59), (⟨a1_2, a1_3⟩ : S59)⟩ : S64), ()) = some (impl_MeetsBox.toH t) := by
  rw [impl_MeetsBox.ef]
  (try dsimp only)
  unfold impl_MeetsBox.f at h
  repeat' (with_reducible first
   | exact nos h
   | (cases some_inj h; exact impl_MeetsBox.rt _)
   | exact (impl_MeetsBox.br _) _ (by omega) _ _ _ _ _ _ _ _ _ _ h
   | ((have q : impl_MeetsBox.j0 k _ _ _ _ _ _ _ _ _ = some _ := h; clear q); rcases k with _ | k <;> simp only [impl_MeetsBox.j0, reduceCtorEq] at h)
   | (simp only [Option.bind_some] at h)
   | (refine ite_by h ?_ ?_ <;> (intro hc h; (try simp only [nrm] at hc)))
   | refine itT ?_
   | refine itF ?_
   | (refine bind_by h (fun t ht h => ?_); (first | refine (impl_IsSegment.ap_of (impl_IsSegment.go ht _)).trans ?_ | refine (impl_IsBox.ap_of (impl_IsBox.go ht _)).trans ?_ | refine (impl_BoxOf.ap_of (impl_BoxOf.go ht _ (by omega))).trans ?_ | refine (impl_BoxesMeet.ap_of (impl_BoxesMeet.go ht _)).trans ?_ | refine (impl_SideOf.ap_of (impl_SideOf.go ht _)).trans ?_); (try dsimp only at h ⊢))
   | (simp only [nr2] at h ⊢)
   | (exfalso; omega))
def impl_piecesOf.Fs : List (Spc env) := [impl_PartsOf.spec, impl_InBox.spec, impl_MeetsBox.spec]
def impl_piecesOf.fin : St eΓ → Option (HL eΓ [.l 83 (.st .s83)]) := finR env Tryz.f107.results.toList [.l 83 (.st .s83)]
def impl_piecesOf.cut : Nat → Option (List (Lv SC)) := lk [(5, [⟨2, none, false⟩, ⟨3, none, false⟩, ⟨4, none, false⟩, ⟨7, none, false⟩, ⟨32, none, false⟩, ⟨33, none, false⟩, ⟨34, none, false⟩])]
def impl_piecesOf.ret (r0 : List S83) : Option (HL eΓ [.l 83 (.st .s83)]) := some (r0, ())
def impl_piecesOf.p5 (k : Nat) (x2 : Bool) (x33 : Int) (x34 : Int) (b0_0 : Int) (b0_1 : Int) (b0_2 : Int) (b0_3 : ByteArray) (b1_0 : Int) (b1_1 : Int) (b1_2 : Int) (b1_3 : Int) (x7 : List S83) (x32 : List S149) (b4 : List S59) : Option (HL eΓ [.l 83 (.st .s83)]) := evM env impl_piecesOf.Fs Tryz.f107.ntmps impl_piecesOf.fin impl_piecesOf.cut k [.code (sub_ [1, 1, 1, 0, 1, 0, 0, 0] (bodyOf Tryz.f107)), .code (sub_ [1, 1, 1, 0, 1, 0, 0, 1] (bodyOf Tryz.f107)), .lp (sub_ [1, 1, 1, 0, 1, 0, 0] (bodyOf Tryz.f107)), .blk 0, .code (sub_ [1, 1, 1, 1] (bodyOf Tryz.f107))] (mkSt [(2, .c (.v (.bool x2))), (3, .c (.ptr 0 0)), (4, .c (.ptr 1 0)), (7, .c (.sl 2)), (32, .c (.sl 3)), (33, .c (.v (.int .i64 x33))), (34, .c (.v (.int .i64 x34)))] [.box 57 [.v (.int .i64 b0_0), .v (.int .i64 b0_1), .v (.int .i64 b0_2), .v (.string b0_3), .sl 4], .box 64 [.v (.int .i64 b1_0), .v (.int .i64 b1_1), .v (.int .i64 b1_2), .v (.int .i64 b1_3)], .row .own 83 (.st .s83) x7, .row .own 149 (.st .s149) x32, .row .ro 59 (.st .s59) b4])
theorem impl_piecesOf.e5 (k : Nat) (x2 : Bool) (x33 : Int) (x34 : Int) (b0_0 : Int) (b0_1 : Int) (b0_2 : Int) (b0_3 : ByteArray) (b1_0 : Int) (b1_1 : Int) (b1_2 : Int) (b1_3 : Int) (x7 : List S83) (x32 : List S149) (b4 : List S59) : impl_piecesOf.p5 (k + 1) x2 x33 x34 b0_0 b0_1 b0_2 b0_3 b1_0 b1_1 b1_2 b1_3 x7 x32 b4 = if x34 < x33 then (if 0 ≤ x34 then (if x34 < (x32.length : Int) then (if x2 = true then (if (x7.length + 1) * 16 ≤ 140737488355328 then (impl_piecesOf.p5 k x2 x33 (wrap64 (x34 + 1)) b0_0 b0_1 b0_2 b0_3 b1_0 b1_1 b1_2 b1_3 (x7 ++ [(⟨b0_0, x34⟩ : S83)]) x32 b4) else none) else (impl_MeetsBox.ap k (⟨(⟨(rd_T149 x32 x34).f0.f0, (rd_T149 x32 x34).f0.f1⟩ : S59), (⟨(rd_T149 x32 x34).f1.f0, (rd_T149 x32 x34).f1.f1⟩ : S59)⟩ : S149) (⟨(⟨b1_0, b1_1⟩ : S59), (⟨b1_2, b1_3⟩ : S59)⟩ : S64) fun r1 => if r1 = true then (if (x7.length + 1) * 16 ≤ 140737488355328 then (impl_piecesOf.p5 k x2 x33 (wrap64 (x34 + 1)) b0_0 b0_1 b0_2 b0_3 b1_0 b1_1 b1_2 b1_3 (x7 ++ [(⟨b0_0, x34⟩ : S83)]) x32 b4) else none) else (impl_piecesOf.p5 k x2 x33 (wrap64 (x34 + 1)) b0_0 b0_1 b0_2 b0_3 b1_0 b1_1 b1_2 b1_3 x7 x32 b4))) else none) else none) else (impl_piecesOf.ret x7) := by kernel_rfl
def impl_piecesOf.run (k : Nat) (h : HL eΓ [.st .s57, .st .s64, .b]) : Option (HL eΓ [.l 83 (.st .s83)]) := evF env impl_piecesOf.Fs Tryz.f107 impl_piecesOf.cut [.st .s57, .st .s64, .b] [.l 83 (.st .s83)] k h
theorem impl_piecesOf.ef (k : Nat) (h0 : S57) (h1 : S64) (h2 : Bool) : impl_piecesOf.run k (h0, h1, h2, ()) = if h0.f1 = 1 then (if h2 = true then (impl_PartsOf.ap k (⟨h0.f0, h0.f1, h0.f2, h0.f3, h0.f4⟩ : S57) fun r1 => impl_piecesOf.p5 k h2 (r1.length : Int) 0 h0.f0 h0.f1 h0.f2 h0.f3 h1.f0.f0 h1.f0.f1 h1.f1.f0 h1.f1.f1 ([(⟨h0.f0, 0⟩ : S83)] : List S83) r1 h0.f4) else (if 0 < (h0.f4.length : Int) then (impl_InBox.ap k (⟨(⟨h1.f0.f0, h1.f0.f1⟩ : S59), (⟨h1.f1.f0, h1.f1.f1⟩ : S59)⟩ : S64) (⟨(rd_T59 h0.f4 0).f0, (rd_T59 h0.f4 0).f1⟩ : S59) fun r2 => if r2 = true then (impl_PartsOf.ap k (⟨h0.f0, h0.f1, h0.f2, h0.f3, h0.f4⟩ : S57) fun r3 => impl_piecesOf.p5 k h2 (r3.length : Int) 0 h0.f0 h0.f1 h0.f2 h0.f3 h1.f0.f0 h1.f0.f1 h1.f1.f0 h1.f1.f1 ([(⟨h0.f0, 0⟩ : S83)] : List S83) r3 h0.f4) else (impl_PartsOf.ap k (⟨h0.f0, h0.f1, h0.f2, h0.f3, h0.f4⟩ : S57) fun r4 => impl_piecesOf.p5 k h2 (r4.length : Int) 0 h0.f0 h0.f1 h0.f2 h0.f3 h1.f0.f0 h1.f0.f1 h1.f1.f0 h1.f1.f1 ([] : List S83) r4 h0.f4)) else none)) else (impl_PartsOf.ap k (⟨h0.f0, h0.f1, h0.f2, h0.f3, h0.f4⟩ : S57) fun r5 => impl_piecesOf.p5 k h2 (r5.length : Int) 0 h0.f0 h0.f1 h0.f2 h0.f3 h1.f0.f0 h1.f0.f1 h1.f1.f0 h1.f1.f1 ([] : List S83) r5 h0.f4) := by kernel_rfl
def impl_piecesOf.toH (t : (List (S83))) : HL eΓ [.l 83 (.st .s83)] := (t, ())
def impl_piecesOf.spec : Spc env := ⟨107, [.st .s57, .st .s64, .b], [.l 83 (.st .s83)], impl_piecesOf.run⟩
def impl_piecesOf.ap {R : Type} (k : Nat) (h0 : S57) (h1 : S64) (h2 : Bool) (K : (List S83) → Option R) : Option R := (impl_piecesOf.run k (h0, h1, h2, ())).bind fun r => K (r.1 : List S83)
theorem impl_piecesOf.ap_of {R : Type} {k : Nat} {h0 : S57} {h1 : S64} {h2 : Bool} {r0 : List S83} {K : (List S83) → Option R} (h : impl_piecesOf.run k (h0, h1, h2, ()) = some (r0, ())) : impl_piecesOf.ap k h0 h1 h2 K = K r0 := by unfold impl_piecesOf.ap; rw [h]; rfl
theorem impl_piecesOf.snd : Snd env impl_piecesOf.spec := evF_snd env_ok (sndC impl_PartsOf.snd (sndC impl_InBox.snd (sndC impl_MeetsBox.snd (sndN))))
attribute [local irreducible] impl_piecesOf.run
theorem impl_piecesOf.rt (a0 : List S83) : impl_piecesOf.ret a0 = some (impl_piecesOf.toH (a0)) := rfl
theorem impl_piecesOf.br (n : Nat) : (∀ K, n ≤ K → ∀ (x2 : Bool) (x33 : Int) (x34 : Int) (b0_0 : Int) (b0_1 : Int) (b0_2 : Int) (b0_3 : ByteArray) (b1_0 : Int) (b1_1 : Int) (b1_2 : Int) (b1_3 : Int) (x7 : List S83) (x32 : List S149) (b4 : List S59) t, impl_piecesOf.l0 n x2 x7 x32 x33 x34 b0_0 b0_1 b0_2 b0_3 b4 b1_0 b1_1 b1_2 b1_3 = some t → impl_piecesOf.p5 K x2 x33 x34 b0_0 b0_1 b0_2 b0_3 b1_0 b1_1 b1_2 b1_3 x7 x32 b4 = some (impl_piecesOf.toH t)) := by
  induction n using Nat.strongRecOn with
  | _ n ih =>
  intro K hK x2 x33 x34 b0_0 b0_1 b0_2 b0_3 b1_0 b1_1 b1_2 b1_3 x7 x32 b4 t h
  all_goals (rcases n with _ | k)
  all_goals (try (exact nos h))
  all_goals (obtain ⟨K, rfl⟩ : ∃ q, K = q + 1 := ⟨K - 1, by omega⟩)
  all_goals (first | rw [impl_piecesOf.e5])
  all_goals (simp only [impl_piecesOf.l0] at h)
  repeat' (with_reducible first
   | exact nos h
   | (cases some_inj h; exact impl_piecesOf.rt _)
   | exact (ih _ (by omega)) _ (by omega) _ _ _ _ _ _ _ _ _ _ _ _ _ _ _ h
   | ((have q : impl_piecesOf.j0 k _ _ _ _ _ _ _ _ _ _ _ _ = some _ := h; clear q); rcases k with _ | k <;> simp only [impl_piecesOf.j0, reduceCtorEq] at h)
   | ((have q : impl_piecesOf.j1 k _ _ _ _ _ _ _ _ _ _ _ = some _ := h; clear q); rcases k with _ | k <;> simp only [impl_piecesOf.j1, reduceCtorEq] at h)
   | (simp only [Option.bind_some] at h)
   | (refine ite_by h ?_ ?_ <;> (intro hc h; (try simp only [nrm] at hc)))
   | refine itT ?_
   | refine itF ?_
   | (refine bind_by h (fun t ht h => ?_); (first | refine (impl_PartsOf.ap_of (impl_PartsOf.go ht _ (by omega))).trans ?_ | refine (impl_InBox.ap_of (impl_InBox.go ht _)).trans ?_ | refine (impl_MeetsBox.ap_of (impl_MeetsBox.go ht _ (by omega))).trans ?_); (try dsimp only at h ⊢))
   | (simp only [nr2] at h ⊢)
   | (exfalso; omega))
theorem impl_piecesOf.go {k : Nat} {a0_0 : Int} {a0_1 : Int} {a0_2 : Int} {a0_3 : ByteArray} {l0_4 : List S59} {a1_0 : Int} {a1_1 : Int} {a1_2 : Int} {a1_3 : Int} {a2 : Bool} {t} (h : impl_piecesOf.f k a0_0 a0_1 a0_2 a0_3 l0_4 a1_0 a1_1 a1_2 a1_3 a2 = some t) (K : Nat) (hK : k ≤ K) : impl_piecesOf.run K ((⟨a0_0, a0_1, a0_2, a0_3, l0_4⟩ : S57), (⟨(⟨a1_0, a1_1⟩ : S59), (⟨a1_2, a1_3⟩ : S59)⟩ : S64), a2, ()) = some (impl_piecesOf.toH t) := by
  rw [impl_piecesOf.ef]
  (try dsimp only)
  unfold impl_piecesOf.f at h
  repeat' (with_reducible first
   | exact nos h
   | (cases some_inj h; exact impl_piecesOf.rt _)
   | exact (impl_piecesOf.br _) _ (by omega) _ _ _ _ _ _ _ _ _ _ _ _ _ _ _ h
   | ((have q : impl_piecesOf.j0 k _ _ _ _ _ _ _ _ _ _ _ _ = some _ := h; clear q); rcases k with _ | k <;> simp only [impl_piecesOf.j0, reduceCtorEq] at h)
   | ((have q : impl_piecesOf.j1 k _ _ _ _ _ _ _ _ _ _ _ = some _ := h; clear q); rcases k with _ | k <;> simp only [impl_piecesOf.j1, reduceCtorEq] at h)
   | (simp only [Option.bind_some] at h)
   | (refine ite_by h ?_ ?_ <;> (intro hc h; (try simp only [nrm] at hc)))
   | refine itT ?_
   | refine itF ?_
   | (refine bind_by h (fun t ht h => ?_); (first | refine (impl_PartsOf.ap_of (impl_PartsOf.go ht _ (by omega))).trans ?_ | refine (impl_InBox.ap_of (impl_InBox.go ht _)).trans ?_ | refine (impl_MeetsBox.ap_of (impl_MeetsBox.go ht _ (by omega))).trans ?_); (try dsimp only at h ⊢))
   | (simp only [nr2] at h ⊢)
   | (exfalso; omega))
def impl_TouchedTiles.Fs : List (Spc env) := [impl_IsFeature.spec, impl_TileBox.spec, impl_piecesOf.spec]
def impl_TouchedTiles.fin : St eΓ → Option (HL eΓ [.l 3 (.i .i64)]) := finR env Tryz.f115.results.toList [.l 3 (.i .i64)]
def impl_TouchedTiles.cut : Nat → Option (List (Lv SC)) := lk [(5, [⟨1, none, false⟩, ⟨3, none, false⟩, ⟨12, none, false⟩])]
def impl_TouchedTiles.ret (r0 : List Int) : Option (HL eΓ [.l 3 (.i .i64)]) := some (r0, ())
def impl_TouchedTiles.p5 (k : Nat) (x12 : Int) (b0_0 : Int) (b0_1 : Int) (b0_2 : Int) (b0_3 : ByteArray) (x3 : List Int) (b2 : List S59) : Option (HL eΓ [.l 3 (.i .i64)]) := evM env impl_TouchedTiles.Fs Tryz.f115.ntmps impl_TouchedTiles.fin impl_TouchedTiles.cut k [.code (sub_ [1, 1, 1, 0, 1, 0, 0, 0] (bodyOf Tryz.f115)), .code (sub_ [1, 1, 1, 0, 1, 0, 0, 1] (bodyOf Tryz.f115)), .lp (sub_ [1, 1, 1, 0, 1, 0, 0] (bodyOf Tryz.f115)), .blk 0, .code (sub_ [1, 1, 1, 1] (bodyOf Tryz.f115))] (mkSt [(1, .c (.ptr 0 0)), (3, .c (.sl 1)), (12, .c (.v (.int .i64 x12)))] [.box 57 [.v (.int .i64 b0_0), .v (.int .i64 b0_1), .v (.int .i64 b0_2), .v (.string b0_3), .sl 2], .row .own 3 (.i .i64) x3, .row .ro 59 (.st .s59) b2])
theorem impl_TouchedTiles.e5 (k : Nat) (x12 : Int) (b0_0 : Int) (b0_1 : Int) (b0_2 : Int) (b0_3 : ByteArray) (x3 : List Int) (b2 : List S59) : impl_TouchedTiles.p5 (k + 1) x12 b0_0 b0_1 b0_2 b0_3 x3 b2 = if x12 < 441 then (impl_TileBox.ap k x12 fun r1_0 r1_1 => impl_piecesOf.ap k (⟨b0_0, b0_1, b0_2, b0_3, b2⟩ : S57) (⟨(⟨r1_0.f0.f0, r1_0.f0.f1⟩ : S59), (⟨r1_0.f1.f0, r1_0.f1.f1⟩ : S59)⟩ : S64) false fun r2 => if (r2.length : Int) > 0 then (if (x3.length + 1) * 8 ≤ 140737488355328 then (impl_TouchedTiles.p5 k (wrap64 (x12 + 1)) b0_0 b0_1 b0_2 b0_3 (x3 ++ [x12]) b2) else none) else (impl_TouchedTiles.p5 k (wrap64 (x12 + 1)) b0_0 b0_1 b0_2 b0_3 x3 b2)) else (impl_TouchedTiles.ret x3) := by kernel_rfl
def impl_TouchedTiles.run (k : Nat) (h : HL eΓ [.st .s57]) : Option (HL eΓ [.l 3 (.i .i64)]) := evF env impl_TouchedTiles.Fs Tryz.f115 impl_TouchedTiles.cut [.st .s57] [.l 3 (.i .i64)] k h
theorem impl_TouchedTiles.ef (k : Nat) (h0 : S57) : impl_TouchedTiles.run k (h0, ()) = impl_IsFeature.ap k (⟨h0.f0, h0.f1, h0.f2, h0.f3, h0.f4⟩ : S57) fun r1 => if (!r1) = true then (impl_TouchedTiles.ret ([] : List Int)) else (impl_TouchedTiles.p5 k 0 h0.f0 h0.f1 h0.f2 h0.f3 ([] : List Int) h0.f4) := by kernel_rfl
def impl_TouchedTiles.toH (t : List Int) : HL eΓ [.l 3 (.i .i64)] := (t, ())
def impl_TouchedTiles.spec : Spc env := ⟨115, [.st .s57], [.l 3 (.i .i64)], impl_TouchedTiles.run⟩
def impl_TouchedTiles.ap {R : Type} (k : Nat) (h0 : S57) (K : (List Int) → Option R) : Option R := (impl_TouchedTiles.run k (h0, ())).bind fun r => K (r.1 : List Int)
theorem impl_TouchedTiles.ap_of {R : Type} {k : Nat} {h0 : S57} {r0 : List Int} {K : (List Int) → Option R} (h : impl_TouchedTiles.run k (h0, ()) = some (r0, ())) : impl_TouchedTiles.ap k h0 K = K r0 := by unfold impl_TouchedTiles.ap; rw [h]; rfl
theorem impl_TouchedTiles.snd : Snd env impl_TouchedTiles.spec := evF_snd env_ok (sndC impl_IsFeature.snd (sndC impl_TileBox.snd (sndC impl_piecesOf.snd (sndN))))
attribute [local irreducible] impl_TouchedTiles.run
theorem impl_TouchedTiles.rt (a0 : List Int) : impl_TouchedTiles.ret a0 = some (impl_TouchedTiles.toH (a0)) := rfl
theorem impl_TouchedTiles.br (n : Nat) : (∀ K, n ≤ K → ∀ (x12 : Int) (b0_0 : Int) (b0_1 : Int) (b0_2 : Int) (b0_3 : ByteArray) (x3 : List Int) (b2 : List S59) t, impl_TouchedTiles.l0 n x3 x12 b0_0 b0_1 b0_2 b0_3 b2 = some t → impl_TouchedTiles.p5 K x12 b0_0 b0_1 b0_2 b0_3 x3 b2 = some (impl_TouchedTiles.toH t)) := by
  induction n using Nat.strongRecOn with
  | _ n ih =>
  intro K hK x12 b0_0 b0_1 b0_2 b0_3 x3 b2 t h
  all_goals (rcases n with _ | k)
  all_goals (try (exact nos h))
  all_goals (obtain ⟨K, rfl⟩ : ∃ q, K = q + 1 := ⟨K - 1, by omega⟩)
  all_goals (first | rw [impl_TouchedTiles.e5])
  all_goals (simp only [impl_TouchedTiles.l0] at h)
  repeat' (with_reducible first
   | exact nos h
   | (cases some_inj h; exact impl_TouchedTiles.rt _)
   | exact (ih _ (by omega)) _ (by omega) _ _ _ _ _ _ _ _ h
   | (simp only [Option.bind_some] at h)
   | (refine ite_by h ?_ ?_ <;> (intro hc h; (try simp only [nrm] at hc)))
   | refine itT ?_
   | refine itF ?_
   | (refine bind_by h (fun t ht h => ?_); (first | refine (impl_IsFeature.ap_of (impl_IsFeature.go ht _ (by omega))).trans ?_ | refine (impl_TileBox.ap_of (impl_TileBox.go ht _)).trans ?_ | refine (impl_piecesOf.ap_of (impl_piecesOf.go ht _ (by omega))).trans ?_); (try dsimp only at h ⊢))
   | (simp only [nr2] at h ⊢)
   | (exfalso; omega))
theorem impl_TouchedTiles.go {k : Nat} {a0_0 : Int} {a0_1 : Int} {a0_2 : Int} {a0_3 : ByteArray} {l0_4 : List S59} {t} (h : impl_TouchedTiles.f k a0_0 a0_1 a0_2 a0_3 l0_4 = some t) (K : Nat) (hK : k ≤ K) : impl_TouchedTiles.run K ((⟨a0_0, a0_1, a0_2, a0_3, l0_4⟩ : S57), ()) = some (impl_TouchedTiles.toH t) := by
  rw [impl_TouchedTiles.ef]
  (try dsimp only)
  unfold impl_TouchedTiles.f at h
  repeat' (with_reducible first
   | exact nos h
   | (cases some_inj h; exact impl_TouchedTiles.rt _)
   | exact (impl_TouchedTiles.br _) _ (by omega) _ _ _ _ _ _ _ _ h
   | (simp only [Option.bind_some] at h)
   | (refine ite_by h ?_ ?_ <;> (intro hc h; (try simp only [nrm] at hc)))
   | refine itT ?_
   | refine itF ?_
   | (refine bind_by h (fun t ht h => ?_); (first | refine (impl_IsFeature.ap_of (impl_IsFeature.go ht _ (by omega))).trans ?_ | refine (impl_TileBox.ap_of (impl_TileBox.go ht _)).trans ?_ | refine (impl_piecesOf.ap_of (impl_piecesOf.go ht _ (by omega))).trans ?_); (try dsimp only at h ⊢))
   | (simp only [nr2] at h ⊢)
   | (exfalso; omega))
def impl_touchedBeyond.Fs : List (Spc env) := [impl_FindFeature.spec, impl_TouchedTiles.spec, impl_EqualFeatures.spec]
def impl_touchedBeyond.fin : St eΓ → Option (HL eΓ [.l 3 (.i .i64)]) := finR env Tryz.f66.results.toList [.l 3 (.i .i64)]
def impl_touchedBeyond.cut : Nat → Option (List (Lv SC)) := lk [(3, [⟨1, none, false⟩, ⟨5, none, false⟩, ⟨10, none, false⟩, ⟨11, none, false⟩, ⟨12, none, false⟩])]
def impl_touchedBeyond.ret (r0 : List Int) : Option (HL eΓ [.l 3 (.i .i64)]) := some (r0, ())
def impl_touchedBeyond.p3 (k : Nat) (x11 : Int) (x12 : Int) (x1 : List S57) (x5 : List Int) (x10 : List S57) : Option (HL eΓ [.l 3 (.i .i64)]) := evM env impl_touchedBeyond.Fs Tryz.f66.ntmps impl_touchedBeyond.fin impl_touchedBeyond.cut k [.code (sub_ [1, 1, 0, 1, 0, 0, 0] (bodyOf Tryz.f66)), .code (sub_ [1, 1, 0, 1, 0, 0, 1] (bodyOf Tryz.f66)), .lp (sub_ [1, 1, 0, 1, 0, 0] (bodyOf Tryz.f66)), .blk 0, .code (sub_ [1, 1, 1] (bodyOf Tryz.f66))] (mkSt [(1, .c (.sl 0)), (5, .c (.sl 1)), (10, .c (.sl 2)), (11, .c (.v (.int .i64 x11))), (12, .c (.v (.int .i64 x12)))] [.row .ro 57 (.st .s57) x1, .row .own 3 (.i .i64) x5, .row .ro 57 (.st .s57) x10])
theorem impl_touchedBeyond.e3 (k : Nat) (x11 : Int) (x12 : Int) (x1 : List S57) (x5 : List Int) (x10 : List S57) : impl_touchedBeyond.p3 (k + 1) x11 x12 x1 x5 x10 = if x12 < x11 then (if 0 ≤ x12 then (if x12 < (x10.length : Int) then (impl_FindFeature.ap k x1 ((rd_T57 x10 x12).f0) fun r1 => if r1 < 0 then (impl_TouchedTiles.ap k (⟨(rd_T57 x10 x12).f0, (rd_T57 x10 x12).f1, (rd_T57 x10 x12).f2, (rd_T57 x10 x12).f3, (rd_T57 x10 x12).f4⟩ : S57) fun r2 => if (x5.length + r2.length) * 8 ≤ 140737488355328 then (impl_touchedBeyond.p3 k x11 (wrap64 (x12 + 1)) x1 (x5 ++ r2) x10) else none) else (if 0 ≤ r1 then (if r1 < (x1.length : Int) then (impl_EqualFeatures.ap k (⟨(rd_T57 x10 x12).f0, (rd_T57 x10 x12).f1, (rd_T57 x10 x12).f2, (rd_T57 x10 x12).f3, (rd_T57 x10 x12).f4⟩ : S57) (⟨(rd_T57 x1 r1).f0, (rd_T57 x1 r1).f1, (rd_T57 x1 r1).f2, (rd_T57 x1 r1).f3, (rd_T57 x1 r1).f4⟩ : S57) fun r3 => if (!r3) = true then (impl_TouchedTiles.ap k (⟨(rd_T57 x10 x12).f0, (rd_T57 x10 x12).f1, (rd_T57 x10 x12).f2, (rd_T57 x10 x12).f3, (rd_T57 x10 x12).f4⟩ : S57) fun r4 => if (x5.length + r4.length) * 8 ≤ 140737488355328 then (impl_touchedBeyond.p3 k x11 (wrap64 (x12 + 1)) x1 (x5 ++ r4) x10) else none) else (impl_touchedBeyond.p3 k x11 (wrap64 (x12 + 1)) x1 x5 x10)) else none) else none)) else none) else none) else (impl_touchedBeyond.ret x5) := by kernel_rfl
def impl_touchedBeyond.run (k : Nat) (h : HL eΓ [.l 57 (.st .s57), .l 57 (.st .s57)]) : Option (HL eΓ [.l 3 (.i .i64)]) := evF env impl_touchedBeyond.Fs Tryz.f66 impl_touchedBeyond.cut [.l 57 (.st .s57), .l 57 (.st .s57)] [.l 3 (.i .i64)] k h
theorem impl_touchedBeyond.ef (k : Nat) (h0 : List S57) (h1 : List S57) : impl_touchedBeyond.run k (h0, h1, ()) = impl_touchedBeyond.p3 k (h0.length : Int) 0 h1 ([] : List Int) h0 := by kernel_rfl
def impl_touchedBeyond.toH (t : List Int) : HL eΓ [.l 3 (.i .i64)] := (t, ())
def impl_touchedBeyond.spec : Spc env := ⟨66, [.l 57 (.st .s57), .l 57 (.st .s57)], [.l 3 (.i .i64)], impl_touchedBeyond.run⟩
theorem impl_touchedBeyond.snd : Snd env impl_touchedBeyond.spec := evF_snd env_ok (sndC impl_FindFeature.snd (sndC impl_TouchedTiles.snd (sndC impl_EqualFeatures.snd (sndN))))
attribute [local irreducible] impl_touchedBeyond.run
theorem impl_touchedBeyond.rt (a0 : List Int) : impl_touchedBeyond.ret a0 = some (impl_touchedBeyond.toH (a0)) := rfl
theorem impl_touchedBeyond.br (n : Nat) : (∀ K, n ≤ K → ∀ (x11 : Int) (x12 : Int) (x1 : List S57) (x5 : List Int) (x10 : List S57) t, impl_touchedBeyond.l0 n x1 x5 x10 x11 x12 = some t → impl_touchedBeyond.p3 K x11 x12 x1 x5 x10 = some (impl_touchedBeyond.toH t)) := by
  induction n using Nat.strongRecOn with
  | _ n ih =>
  intro K hK x11 x12 x1 x5 x10 t h
  all_goals (rcases n with _ | k)
  all_goals (try (exact nos h))
  all_goals (obtain ⟨K, rfl⟩ : ∃ q, K = q + 1 := ⟨K - 1, by omega⟩)
  all_goals (first | rw [impl_touchedBeyond.e3])
  all_goals (simp only [impl_touchedBeyond.l0] at h)
  repeat' (with_reducible first
   | exact nos h
   | (cases some_inj h; exact impl_touchedBeyond.rt _)
   | exact (ih _ (by omega)) _ (by omega) _ _ _ _ _ _ h
   | (simp only [Option.bind_some] at h)
   | (refine ite_by h ?_ ?_ <;> (intro hc h; (try simp only [nrm] at hc)))
   | refine itT ?_
   | refine itF ?_
   | (refine bind_by h (fun t ht h => ?_); (first | refine (impl_FindFeature.ap_of (impl_FindFeature.go ht _)).trans ?_ | refine (impl_TouchedTiles.ap_of (impl_TouchedTiles.go ht _ (by omega))).trans ?_ | refine (impl_EqualFeatures.ap_of (impl_EqualFeatures.go ht _ (by omega))).trans ?_); (try dsimp only at h ⊢))
   | (simp only [nr2] at h ⊢)
   | (exfalso; omega))
theorem impl_touchedBeyond.go {k : Nat} {l0 : List S57} {l1 : List S57} {t} (h : impl_touchedBeyond.f k l0 l1 = some t) (K : Nat) (hK : k ≤ K) : impl_touchedBeyond.run K (l0, l1, ()) = some (impl_touchedBeyond.toH t) := by
  rw [impl_touchedBeyond.ef]
  (try dsimp only)
  unfold impl_touchedBeyond.f at h
  repeat' (with_reducible first
   | exact nos h
   | (cases some_inj h; exact impl_touchedBeyond.rt _)
   | exact (impl_touchedBeyond.br _) _ (by omega) _ _ _ _ _ _ h
   | (simp only [Option.bind_some] at h)
   | (refine ite_by h ?_ ?_ <;> (intro hc h; (try simp only [nrm] at hc)))
   | refine itT ?_
   | refine itF ?_
   | (refine bind_by h (fun t ht h => ?_); (first | refine (impl_FindFeature.ap_of (impl_FindFeature.go ht _)).trans ?_ | refine (impl_TouchedTiles.ap_of (impl_TouchedTiles.go ht _ (by omega))).trans ?_ | refine (impl_EqualFeatures.ap_of (impl_EqualFeatures.go ht _ (by omega))).trans ?_); (try dsimp only at h ⊢))
   | (simp only [nr2] at h ⊢)
   | (exfalso; omega))
theorem impl_touchedBeyond.calls (k : Nat) (A0 : Option Addr) (c0 : Nat) (l0 : List (S57)) (A1 : Option Addr) (c1 : Nat) (l1 : List (S57)) (r : List Int) (w : World) (hr0 : Kd.C k57 w A0 l0.length l0) (hc0 : l0.length ≤ c0) (hr1 : Kd.C k57 w A1 l1.length l1) (hc1 : l1.length ≤ c1) (h : impl_touchedBeyond.f k l0 l1 = some r) :
  Calls Tryz.prog 66 #[.slice A0 l0.length c0, .slice A1 l1.length c1] w fun e w' => ∃ v0_ : Value, e = .returned (v0_) ∧ Kd.R (Kd.int .i64) 3 w' w.heap.size (fun _ => True) v0_ r ∧ Below w.heap.size w w' := by
  refine (impl_touchedBeyond.snd.calls _ _ _ (impl_touchedBeyond.go h k (Nat.le_refl k)) w [.slice A0 l0.length c0, .slice A1 l1.length c1] ⟨⟨_, _, rfl, hc0, hr0⟩, ⟨_, _, rfl, hc1, hr1⟩, trivial⟩).mono ?_
  rintro e w' ⟨v, rfl, hB, vs, oks, rfl, hR, _⟩
  obtain ⟨x0_, vs, o0_, oks, rfl, rfl, m0_, hR⟩ := rmsC hR
  obtain rfl := rmsN hR
  obtain ⟨x0_v, x0_e, x0_R⟩ := m0_
  obtain rfl := List.singleton_inj.1 x0_e
  exact ⟨_, rfl, Kd.R_mono x0_R (fun _ _ => trivial), hB⟩
set_option maxHeartbeats 8000000 in
set_option maxRecDepth 100000 in
theorem impl_ChangedTiles.calls (k : Nat) (A0 : Option Addr) (c0 : Nat) (l0 : List (S57)) (A1 : Option Addr) (c1 : Nat) (l1 : List (S57)) (r : List Int) (w : World) (hr0 : Kd.C k57 w A0 l0.length l0) (hc0 : l0.length ≤ c0) (hr1 : Kd.C k57 w A1 l1.length l1) (hc1 : l1.length ≤ c1) (h : impl_ChangedTiles.f k l0 l1 = some r) :
  Calls Tryz.prog 29 #[.slice A0 l0.length c0, .slice A1 l1.length c1] w fun e w' => ∃ v0_ : Value, e = .returned (v0_) ∧ Kd.R (Kd.int .i64) 3 w' w.heap.size (fun _ => True) v0_ r ∧ Below w.heap.size w w' := by
 have HR0 := Aside0.mk hr0; have HC0 := Aside0.mk hc0; clear hr0 hc0; have HR1 := Aside0.mk hr1; have HC1 := Aside0.mk hc1; clear hr1 hc1; have HB := Aside0.mk (Below.refl w.heap.size w); have H : ((impl_IsSource.f k l0).bind fun t720 => (if t720 = true then ((impl_IsSource.f k l1).bind fun t721 => (impl_ChangedTiles.j0 k l0 l1 (!t721))) else (impl_ChangedTiles.j0 k l0 l1 true))) = some r := h; clear h; have HC3 := Aside0.mk H; clear H
 go_enter Tryz.func29, Tryz.ntmps29
 go_upto_region 1 with (fail)
 go_cut [13] (fun v13 wc => ∃ (kq : Nat) (x13_2 : Bool), v13 = .bool x13_2 ∧ Aside0 (impl_ChangedTiles.j0 kq l0 l1 x13_2 = some r) ∧ Aside0 (kq ≤ k) ∧ Aside0 (Below w.heap.size w wc))
 case first =>
  have H := HC3.out; clear HC3; replace H := Option.bind_eq_some_iff.mp H; obtain ⟨t720, A40, H⟩ := H; have A4 := Aside0.mk A40; clear A40
  by_cases c5 : t720 = true
  ·subst c5; replace H := ift H; replace H := Option.bind_eq_some_iff.mp H; obtain ⟨t721, A60, H⟩ := H; have A6 := Aside0.mk A60; clear A60; have H' := Aside0.mk H; clear H; go_wp2_with (first | ((with_reducible refine gt (some 7) rfl ?_); refine gc Tryz.func65 (impl_IsSource.calls k _ _ l0 true _ cz0 HC0.out A4.out) ?_; rintro e w7 ⟨rfl, hb⟩; refine ⟨_, rfl, ?_⟩; replace HB := Aside0.mk (below_step bz hb); (try clear hb)) | (go_at_call 65; (with_reducible refine (impl_IsSource.calls k _ _ l1 t721 _ ?side1 ?side2 A6.out).mono ?_); (case side1 => repeat (first | exact (Kd.C_below HR1.out HB.out) | (with_reducible refine Kd.C_alloc ?_ _) | (with_reducible refine Kd.C_drewN ?_ _) | (with_reducible refine Kd.C_drew ?_))); (case side2 => exact HC1.out); rintro e w8 ⟨rfl, hb⟩; replace HB := Aside0.mk (below_step bz hb); (try clear hb)))
   go_meet
   case rel => exact ⟨_, (!t721), rz, H', ⟨qz⟩, ⟨bz⟩⟩
  ·replace c5 := Bool.eq_false_iff.mpr c5; subst c5; replace H := iff_ H; have H' := Aside0.mk H; clear H; go_wp2_with (first | ((with_reducible refine gt (some 7) rfl ?_); refine gc Tryz.func65 (impl_IsSource.calls k _ _ l0 false _ cz0 HC0.out A4.out) ?_; rintro e w9 ⟨rfl, hb⟩; refine ⟨_, rfl, ?_⟩; replace HB := Aside0.mk (below_step bz hb); (try clear hb)))
   go_meet
   case rel => exact ⟨_, (true), rz, H', ⟨qz⟩, ⟨bz⟩⟩
 case rest =>
  clear HC3; (try clear c1); (try clear c2); (try clear p2); (try clear c5); (try clear c6); obtain ⟨kq, x13_2, rfl, HA, HJ2, HB⟩ := hcut
  cases kq with
  | zero => exact absurd HA.out (by simp [impl_ChangedTiles.j0])
  | succ kj2 =>
   have H := HA.out; clear HA; simp only [impl_ChangedTiles.j0] at H
   by_cases c10 : x13_2 = true
   ·subst c10; replace H := ift H; obtain ⟨y722, hy722⟩ : ∃ y_ : List Int, y_ = (([] : List Int)) := ⟨_, rfl⟩
    replace H : (some y722) = some r := by first | (rw [hy722]; with_reducible exact H) | (have H2_ := (Option.bind_some _ _).symm.trans H; rw [hy722]; with_reducible exact H2_) | (have H2_ := (Option.bind_some _ _).symm.trans H; with_reducible exact H2_) | with_reducible exact H | (rw [hy722]; exact H) | exact H
    have Ny722 := Aside0.mk hy722; clear hy722; obtain rfl := Option.some.inj H; go_wp2_with (first | ((with_reducible refine gate_dst (N := 14) rfl ?_); refine Kd.R_lit (Kd.int .i64) _ 3 ?hg (N := 14) ?hd (xs := ([] : List Int)) (inner := []) (ok := fun _ => True) (okp := fun _ => True) ?hr ?hp (fun _ hk => hk) trivial (Below.refl _ _) (Nat.le_refl _) (by simp) ?_; (case hd => rfl); (case hg => rfl); (case hr => first | (go_simp; done) | (go_simp; rfl)); (case hp => exact (Reps.none _ _)); intro v723 w11 ho12 hb hg_ hnew_; clear hg_ hnew_; (first | rw [← Ny722.out] at ho12 | (simp only [Int.reduceToNat] at ho12; rw [← Ny722.out] at ho12)); have HO724 := Aside0.mk (Kd.R_lower ho12 (below_size bz)); replace HB := Aside0.mk (below_step bz hb); clear hb ho12)); go_ret
    exact ⟨_, ez, hr HO724.out, bz⟩
   ·replace c10 := Bool.eq_false_iff.mpr c10; subst c10; replace H := iff_ H; replace H := Option.bind_eq_some_iff.mp H; obtain ⟨t725, A130, H⟩ := H; have A13 := Aside0.mk A130; clear A130; replace H := Option.bind_eq_some_iff.mp H; obtain ⟨t728, A140, H⟩ := H; have A14 := Aside0.mk A140; clear A140
    by_cases c15 : t725.length + t728.length < 17592186044416
    ·rw [if_pos c15] at H; have LMc15 := Aside0.mk c15; clear c15; obtain ⟨y731, hy731⟩ : ∃ y_ : List Int, y_ = (t725 ++ t728) := ⟨_, rfl⟩
     replace H : ((slices_Sort_int_int.f y731).bind fun t734 => ((slices_Compact_int_int.f t734).bind fun t735 => (some t735))) = some r := by first | (rw [hy731]; with_reducible exact H) | (have H2_ := (Option.bind_some _ _).symm.trans H; rw [hy731]; with_reducible exact H2_) | (have H2_ := (Option.bind_some _ _).symm.trans H; with_reducible exact H2_) | with_reducible exact H | (rw [hy731]; exact H) | exact H
     have Ny731 := Aside0.mk hy731; clear hy731; replace H := Option.bind_eq_some_iff.mp H; obtain ⟨t734, A160, H⟩ := H; have A16 := Aside0.mk A160; clear A160; replace H := Option.bind_eq_some_iff.mp H; obtain ⟨t735, A170, H⟩ := H; have A17 := Aside0.mk A170; clear A170; obtain rfl := Option.some.inj H; go_wp2_with (first | ((with_reducible refine gt (some 17) rfl ?_); refine gc Tryz.func66 (impl_touchedBeyond.calls kj2 A0 c0 l0 A1 c1 l1 t725 _ cz0 HC0.out (cz (Kd.C_below HR1.out HB.out)) HC1.out A13.out) ?_; rintro e w18 ⟨v726, rfl, ho0, hb⟩; refine ⟨_, rfl, ?_⟩; have HO727 := Aside0.mk (Kd.R_lower ho0 (below_size bz)); replace HB := Aside0.mk (below_step bz hb); (try clear hb); (try clear ho0)) | ((with_reducible refine gt (some 20) rfl ?_); refine gc Tryz.func66 (impl_touchedBeyond.calls kj2 A1 c1 l1 A0 c0 l0 t728 _ (cz (Kd.C_below HR1.out HB.out)) HC1.out cz0 HC0.out A14.out) ?_; rintro e w19 ⟨v729, rfl, ho0, hb⟩; refine ⟨_, rfl, ?_⟩; have HO730 := Aside0.mk (Kd.R_lower (Kd.R_new' ho0 (Kd.R_lt (hr HO727.out))) (below_size bz)); replace HO727 := Aside0.mk (Kd.R_elder' (hr HO727.out) (Kd.R_base ho0) hb); replace HB := Aside0.mk (below_step bz hb); (try clear hb); (try clear ho0); obtain ⟨Ao21, co21, eo21⟩ := Kd.R_slice HO730.out; subst eo21) | ((with_reducible refine gate_builtin (b := .append) (xs := #[.tmp 17, .tmp 20]) rfl ?_); at_builtin; refine Kd.R_append_rows (Kd.int .i64) (w0 := w) w.heap.size rfl (.tmp 17) (.tmp 20) 33 3 (.int .i64 0) 8 rfl Tryz.underlying33 info3 rfl (by decide) (by omega) v726 t725 t728 _ _ _ (fun k_ => some k_ ≠ (.slice Ao21 t728.length co21 : Value).ownBlock) (fun _ => False) rfl rfl ?aO ?aR (fun _ _ h => h) (fun _ h => h.elim) ?aF ?aB ?aS ?aL ?_; (case aR => repeat (first | exact (Kd.R_reads' HO730.out).2.2 | (with_reducible refine Kd.C_alloc ?_ _) | (with_reducible refine Kd.C_drewN ?_ _) | (with_reducible refine Kd.C_drew ?_))); (case aB => exact bz); (case aF => exact (fun k_ hk => Kd.fresh' (Kd.R_lt (hr HO730.out)) k_ hk)); (case aO => exact (hr (Kd.R_mono HO727.out (fun _ hk => hk.2)))); (case aS => exact (below_size bz)); (case aL => have := LMc15.out; omega); intro v732 w20 ho hb hg hat; rw [← Ny731.out] at ho; have n0_ := Aside0.mk (Kd.R_after (ok := (fun _ => True)) (hr HO730.out) hg hat); have n1_ := Aside0.mk (hb); have n2_ := Aside0.mk (ho); clear HO730; clear HB; clear HO727; have HO730 := n0_; have HB := n1_; have HO733 := n2_; clear n0_ n1_ n2_; clear ho hb hg hat; obtain ⟨Ao22, co22, eo22⟩ := Kd.R_slice HO733.out; subst eo22) | ((with_reducible refine gt (some 23) rfl ?_); refine gc Tryz.func67 (slices_Sort_int_int.calls (fun k_ => some k_ = (.slice Ao22 y731.length co22 : Value).ownBlock) (.slice Ao22 y731.length co22) y731 t734 w _ (by repeat (first | (with_reducible first | exact HB.out | apply below_alloc | apply pw_below_drewN | apply below_drew1) | exact HB.out)) (Kd.R_tight rfl HO733.out) A16.out) ?_; rintro e w23 ⟨rfl, hy0, hb, hkp⟩; refine ⟨_, rfl, ?_⟩; replace HO730 := Aside0.mk (Kd.R_mono (ok' := fun k_ => some k_ ≠ (.slice Ao22 y731.length co22 : Value).ownBlock) (Kd.R_keptB (HO730.out) hkp (fun k_ hk_ hs_ => absurd hs_ (by first | exact hk_.2 | exact hk_.1.2 | exact hk_.1.1 | exact hk_.1 | exact hk_.2 | exact hk_.1.1.2 | exact hk_))) (fun k_ hk_ => hk_.1.2)); replace HO733 := Aside0.mk (Kd.R_reok rfl hy0 (fun k_ e_ => HO733.out.1 k_ e_)); replace HB := Aside0.mk (hb); (try clear hb); (try clear hkp); (try clear hy0)) | ((with_reducible refine gt (some 25) rfl ?_); refine gc Tryz.func68 (slices_Compact_int_int.calls (fun k_ => some k_ = (.slice Ao22 y731.length co22 : Value).ownBlock) (.slice Ao22 y731.length co22) t734 t735 w _ (by repeat (first | (with_reducible first | exact HB.out | apply below_alloc | apply pw_below_drewN | apply below_drew1) | exact HB.out)) (Kd.R_tight rfl HO733.out) A17.out) ?_; rintro e w24 ⟨v736, rfl, ho0, hb, hkp⟩; refine ⟨_, rfl, ?_⟩; have n0_ := Aside0.mk (Kd.R_mono (ok' := fun k_ => some k_ ≠ (v736 : Value).ownBlock) (Kd.R_keptB (HO730.out) hkp (fun k_ hk_ hs_ => absurd hs_ (by first | exact hk_ | exact hk_.1.2 | exact hk_.1.1 | exact hk_.1 | exact hk_.2 | exact hk_.1.1.2 | exact hk_))) (fun k_ hk_ => fun e_ => Or.elim (ho0.1 k_ e_.symm) (fun hs_ => hk_.2.1 hs_) (fun hn_ => Nat.not_le.2 hk_.2.2 hn_))); have n1_ := Aside0.mk (Kd.R_mono (ok' := fun k_ => some k_ ≠ (.slice Ao21 t728.length co21 : Value).ownBlock) ho0 (fun k_ hk_ => Or.elim hk_ (fun hs_ => fun e_ => (((HO730.out).1 k_ e_.symm)) hs_) (fun hn_ => (Kd.fresh' (Kd.R_lt (hr HO730.out)) k_ hn_)))); have n2_ := Aside0.mk (hb); clear HO730; clear HB; clear HO733; have HO730 := n0_; have HO737 := n1_; have HB := n2_; clear n0_ n1_ n2_; (try clear hb); (try clear hkp); (try clear ho0)))
     go_ret
     exact ⟨_, ez, hr (Kd.R_mono HO737.out (fun _ hk => trivial)), bz⟩
    ·rw [if_neg c15] at H
     exact absurd H (by simp)
def impl_PiecesIn.Fs : List (Spc env) := [impl_TileBox.spec, impl_IsSource.spec, impl_piecesOf.spec]
def impl_PiecesIn.fin : St eΓ → Option (HL eΓ [.l 83 (.st .s83)]) := finR env Tryz.f57.results.toList [.l 83 (.st .s83)]
def impl_PiecesIn.cut : Nat → Option (List (Lv SC)) := lk [(6, [⟨5, none, false⟩, ⟨6, none, false⟩, ⟨24, none, false⟩, ⟨25, none, false⟩, ⟨26, none, false⟩])]
def impl_PiecesIn.ret (r0 : List S83) : Option (HL eΓ [.l 83 (.st .s83)]) := some (r0, ())
def impl_PiecesIn.p6 (k : Nat) (x25 : Int) (x26 : Int) (x5 : List S83) (b1_0 : Int) (b1_1 : Int) (b1_2 : Int) (b1_3 : Int) (x24 : List S57) : Option (HL eΓ [.l 83 (.st .s83)]) := evM env impl_PiecesIn.Fs Tryz.f57.ntmps impl_PiecesIn.fin impl_PiecesIn.cut k [.code (sub_ [1, 1, 1, 1, 0, 1, 0, 0, 0] (bodyOf Tryz.f57)), .code (sub_ [1, 1, 1, 1, 0, 1, 0, 0, 1] (bodyOf Tryz.f57)), .lp (sub_ [1, 1, 1, 1, 0, 1, 0, 0] (bodyOf Tryz.f57)), .blk 0, .code (sub_ [1, 1, 1, 1, 1] (bodyOf Tryz.f57))] (mkSt [(5, .c (.sl 0)), (6, .c (.ptr 1 0)), (24, .c (.sl 2)), (25, .c (.v (.int .i64 x25))), (26, .c (.v (.int .i64 x26)))] [.row .own 83 (.st .s83) x5, .box 64 [.v (.int .i64 b1_0), .v (.int .i64 b1_1), .v (.int .i64 b1_2), .v (.int .i64 b1_3)], .row .ro 57 (.st .s57) x24])
theorem impl_PiecesIn.e6 (k : Nat) (x25 : Int) (x26 : Int) (x5 : List S83) (b1_0 : Int) (b1_1 : Int) (b1_2 : Int) (b1_3 : Int) (x24 : List S57) : impl_PiecesIn.p6 (k + 1) x25 x26 x5 b1_0 b1_1 b1_2 b1_3 x24 = if x26 < x25 then (if 0 ≤ x26 then (if x26 < (x24.length : Int) then (impl_piecesOf.ap k (⟨(rd_T57 x24 x26).f0, (rd_T57 x24 x26).f1, (rd_T57 x24 x26).f2, (rd_T57 x24 x26).f3, (rd_T57 x24 x26).f4⟩ : S57) (⟨(⟨b1_0, b1_1⟩ : S59), (⟨b1_2, b1_3⟩ : S59)⟩ : S64) false fun r1 => if (x5.length + r1.length) * 16 ≤ 140737488355328 then (impl_PiecesIn.p6 k x25 (wrap64 (x26 + 1)) (x5 ++ r1) b1_0 b1_1 b1_2 b1_3 x24) else none) else none) else none) else (impl_PiecesIn.ret x5) := by kernel_rfl
def impl_PiecesIn.run (k : Nat) (h : HL eΓ [.l 57 (.st .s57), .i .i64]) : Option (HL eΓ [.l 83 (.st .s83)]) := evF env impl_PiecesIn.Fs Tryz.f57 impl_PiecesIn.cut [.l 57 (.st .s57), .i .i64] [.l 83 (.st .s83)] k h
theorem impl_PiecesIn.ef (k : Nat) (h0 : List S57) (h1 : Int) : impl_PiecesIn.run k (h0, h1, ()) = impl_TileBox.ap k h1 fun r1_0 r1_1 => if (!r1_1) = true then (impl_PiecesIn.ret ([] : List S83)) else (impl_IsSource.ap k h0 fun r2 => if (!r2) = true then (impl_PiecesIn.ret ([] : List S83)) else (impl_PiecesIn.p6 k (h0.length : Int) 0 ([] : List S83) r1_0.f0.f0 r1_0.f0.f1 r1_0.f1.f0 r1_0.f1.f1 h0)) := by kernel_rfl
def impl_PiecesIn.toH (t : (List (S83))) : HL eΓ [.l 83 (.st .s83)] := (t, ())
def impl_PiecesIn.spec : Spc env := ⟨57, [.l 57 (.st .s57), .i .i64], [.l 83 (.st .s83)], impl_PiecesIn.run⟩
def impl_PiecesIn.ap {R : Type} (k : Nat) (h0 : List S57) (h1 : Int) (K : (List S83) → Option R) : Option R := (impl_PiecesIn.run k (h0, h1, ())).bind fun r => K (r.1 : List S83)
theorem impl_PiecesIn.ap_of {R : Type} {k : Nat} {h0 : List S57} {h1 : Int} {r0 : List S83} {K : (List S83) → Option R} (h : impl_PiecesIn.run k (h0, h1, ()) = some (r0, ())) : impl_PiecesIn.ap k h0 h1 K = K r0 := by unfold impl_PiecesIn.ap; rw [h]; rfl
theorem impl_PiecesIn.snd : Snd env impl_PiecesIn.spec := evF_snd env_ok (sndC impl_TileBox.snd (sndC impl_IsSource.snd (sndC impl_piecesOf.snd (sndN))))
attribute [local irreducible] impl_PiecesIn.run
theorem impl_PiecesIn.rt (a0 : List S83) : impl_PiecesIn.ret a0 = some (impl_PiecesIn.toH (a0)) := rfl
theorem impl_PiecesIn.br (n : Nat) : (∀ K, n ≤ K → ∀ (x25 : Int) (x26 : Int) (x5 : List S83) (b1_0 : Int) (b1_1 : Int) (b1_2 : Int) (b1_3 : Int) (x24 : List S57) t, impl_PiecesIn.l0 n x5 x24 x25 x26 b1_0 b1_1 b1_2 b1_3 = some t → impl_PiecesIn.p6 K x25 x26 x5 b1_0 b1_1 b1_2 b1_3 x24 = some (impl_PiecesIn.toH t)) := by
  induction n using Nat.strongRecOn with
  | _ n ih =>
  intro K hK x25 x26 x5 b1_0 b1_1 b1_2 b1_3 x24 t h
  all_goals (rcases n with _ | k)
  all_goals (try (exact nos h))
  all_goals (obtain ⟨K, rfl⟩ : ∃ q, K = q + 1 := ⟨K - 1, by omega⟩)
  all_goals (first | rw [impl_PiecesIn.e6])
  all_goals (simp only [impl_PiecesIn.l0] at h)
  repeat' (with_reducible first
   | exact nos h
   | (cases some_inj h; exact impl_PiecesIn.rt _)
   | exact (ih _ (by omega)) _ (by omega) _ _ _ _ _ _ _ _ _ h
   | ((have q : impl_PiecesIn.j0 k _ _ _ _ _ _ _ = some _ := h; clear q); rcases k with _ | k <;> simp only [impl_PiecesIn.j0, reduceCtorEq] at h)
   | (simp only [Option.bind_some] at h)
   | (refine ite_by h ?_ ?_ <;> (intro hc h; (try simp only [nrm] at hc)))
   | refine itT ?_
   | refine itF ?_
   | (refine bind_by h (fun t ht h => ?_); (first | refine (impl_TileBox.ap_of (impl_TileBox.go ht _)).trans ?_ | refine (impl_IsSource.ap_of (impl_IsSource.go ht _ (by omega))).trans ?_ | refine (impl_piecesOf.ap_of (impl_piecesOf.go ht _ (by omega))).trans ?_); (try dsimp only at h ⊢))
   | (simp only [nr2] at h ⊢)
   | (exfalso; omega))
theorem impl_PiecesIn.go {k : Nat} {l0 : List S57} {a1 : Int} {t} (h : impl_PiecesIn.f k l0 a1 = some t) (K : Nat) (hK : k ≤ K) : impl_PiecesIn.run K (l0, a1, ()) = some (impl_PiecesIn.toH t) := by
  rw [impl_PiecesIn.ef]
  (try dsimp only)
  unfold impl_PiecesIn.f at h
  repeat' (with_reducible first
   | exact nos h
   | (cases some_inj h; exact impl_PiecesIn.rt _)
   | exact (impl_PiecesIn.br _) _ (by omega) _ _ _ _ _ _ _ _ _ h
   | ((have q : impl_PiecesIn.j0 k _ _ _ _ _ _ _ = some _ := h; clear q); rcases k with _ | k <;> simp only [impl_PiecesIn.j0, reduceCtorEq] at h)
   | (simp only [Option.bind_some] at h)
   | (refine ite_by h ?_ ?_ <;> (intro hc h; (try simp only [nrm] at hc)))
   | refine itT ?_
   | refine itF ?_
   | (refine bind_by h (fun t ht h => ?_); (first | refine (impl_TileBox.ap_of (impl_TileBox.go ht _)).trans ?_ | refine (impl_IsSource.ap_of (impl_IsSource.go ht _ (by omega))).trans ?_ | refine (impl_piecesOf.ap_of (impl_piecesOf.go ht _ (by omega))).trans ?_); (try dsimp only at h ⊢))
   | (simp only [nr2] at h ⊢)
   | (exfalso; omega))
def impl_Mod.Fs : List (Spc env) := [impl_InRange.spec]
def impl_Mod.cut : Nat → Option (List (Lv SC)) := lk []
def impl_Mod.ret (r0 : Int) : Option (HL eΓ [.i .i64]) := some (r0, ())
def impl_Mod.run (k : Nat) (h : HL eΓ [.i .i64, .i .i64]) : Option (HL eΓ [.i .i64]) := evF env impl_Mod.Fs Tryz.f201 impl_Mod.cut [.i .i64, .i .i64] [.i .i64] k h
theorem impl_Mod.ef (k : Nat) (h0 : Int) (h1 : Int) : impl_Mod.run k (h0, h1, ()) = impl_InRange.ap k h1 1 1000000000000 fun r1 => if (!r1) = true then (impl_Mod.ret 0) else (if h1 = 0 then none else (if (Int.tmod h0 h1) < 0 then (impl_Mod.ret (wrap64 ((Int.tmod h0 h1) + h1))) else (impl_Mod.ret (Int.tmod h0 h1)))) := by kernel_rfl
def impl_Mod.toH (t : Int) : HL eΓ [.i .i64] := (t, ())
def impl_Mod.spec : Spc env := ⟨201, [.i .i64, .i .i64], [.i .i64], impl_Mod.run⟩
def impl_Mod.ap {R : Type} (k : Nat) (h0 : Int) (h1 : Int) (K : Int → Option R) : Option R := (impl_Mod.run k (h0, h1, ())).bind fun r => K (r.1 : Int)
theorem impl_Mod.ap_of {R : Type} {k : Nat} {h0 : Int} {h1 : Int} {r0 : Int} {K : Int → Option R} (h : impl_Mod.run k (h0, h1, ()) = some (r0, ())) : impl_Mod.ap k h0 h1 K = K r0 := by unfold impl_Mod.ap; rw [h]; rfl
theorem impl_Mod.snd : Snd env impl_Mod.spec := evF_snd env_ok (sndC impl_InRange.snd (sndN))
attribute [local irreducible] impl_Mod.run
theorem impl_Mod.rt (a0 : Int) : impl_Mod.ret a0 = some (impl_Mod.toH (a0)) := rfl
theorem impl_Mod.go {a0 : Int} {a1 : Int} {t} (h : impl_Mod.f a0 a1 = some t) (K : Nat) : impl_Mod.run K (a0, a1, ()) = some (impl_Mod.toH t) := by
  rw [impl_Mod.ef]
  (try dsimp only)
  unfold impl_Mod.f at h
  repeat' (with_reducible first
   | exact nos h
   | (cases some_inj h; exact impl_Mod.rt _)
   | (simp only [Option.bind_some] at h)
   | (refine ite_by h ?_ ?_ <;> (intro hc h; (try simp only [nrm] at hc)))
   | refine itT ?_
   | refine itF ?_
   | (refine bind_by h (fun t ht h => ?_); refine (impl_InRange.ap_of (impl_InRange.go ht _)).trans ?_; (try dsimp only at h ⊢))
   | (simp only [nr2] at h ⊢)
   | (exfalso; omega))
def impl_fold.Fs : List (Spc env) := [impl_Mod.spec]
def impl_fold.cut : Nat → Option (List (Lv SC)) := lk []
def impl_fold.ret (r0 : Int) : Option (HL eΓ [.i .i64]) := some (r0, ())
def impl_fold.run (k : Nat) (h : HL eΓ [.i .i64, .i .i64]) : Option (HL eΓ [.i .i64]) := evF env impl_fold.Fs Tryz.f168 impl_fold.cut [.i .i64, .i .i64] [.i .i64] k h
theorem impl_fold.ef (k : Nat) (h0 : Int) (h1 : Int) : impl_fold.run k (h0, h1, ()) = impl_Mod.ap k h1 2147483647 fun r1 => impl_fold.ret (Int.tmod (wrap64 ((wrap64 ((wrap64 (h0 * 1000003)) + r1)) + 13)) 2147483647) := by kernel_rfl
def impl_fold.toH (t : Int) : HL eΓ [.i .i64] := (t, ())
def impl_fold.spec : Spc env := ⟨168, [.i .i64, .i .i64], [.i .i64], impl_fold.run⟩
def impl_fold.ap {R : Type} (k : Nat) (h0 : Int) (h1 : Int) (K : Int → Option R) : Option R := (impl_fold.run k (h0, h1, ())).bind fun r => K (r.1 : Int)
theorem impl_fold.ap_of {R : Type} {k : Nat} {h0 : Int} {h1 : Int} {r0 : Int} {K : Int → Option R} (h : impl_fold.run k (h0, h1, ()) = some (r0, ())) : impl_fold.ap k h0 h1 K = K r0 := by unfold impl_fold.ap; rw [h]; rfl
theorem impl_fold.snd : Snd env impl_fold.spec := evF_snd env_ok (sndC impl_Mod.snd (sndN))
attribute [local irreducible] impl_fold.run
theorem impl_fold.rt (a0 : Int) : impl_fold.ret a0 = some (impl_fold.toH (a0)) := rfl
theorem impl_fold.go {a0 : Int} {a1 : Int} {t} (h : impl_fold.f a0 a1 = some t) (K : Nat) : impl_fold.run K (a0, a1, ()) = some (impl_fold.toH t) := by
  rw [impl_fold.ef]
  (try dsimp only)
  unfold impl_fold.f at h
  repeat' (with_reducible first
   | exact nos h
   | (cases some_inj h; exact impl_fold.rt _)
   | (simp only [Option.bind_some] at h)
   | (refine ite_by h ?_ ?_ <;> (intro hc h; (try simp only [nrm] at hc)))
   | refine itT ?_
   | refine itF ?_
   | (refine bind_by h (fun t ht h => ?_); refine (impl_Mod.ap_of (impl_Mod.go ht _)).trans ?_; (try dsimp only at h ⊢))
   | (simp only [nr2] at h ⊢)
   | (exfalso; omega))
def impl_Hash.Fs : List (Spc env) := [impl_fold.spec]
def impl_Hash.fin : St eΓ → Option (HL eΓ [.i .i64]) := finR env Tryz.f119.results.toList [.i .i64]
def impl_Hash.cut : Nat → Option (List (Lv SC)) := lk [(3, [⟨3, none, false⟩, ⟨6, none, false⟩, ⟨7, none, false⟩, ⟨8, none, false⟩])]
def impl_Hash.ret (r0 : Int) : Option (HL eΓ [.i .i64]) := some (r0, ())
def impl_Hash.p3 (k : Nat) (x3 : Int) (x7 : Int) (x8 : Int) (x6 : List Int) : Option (HL eΓ [.i .i64]) := evM env impl_Hash.Fs Tryz.f119.ntmps impl_Hash.fin impl_Hash.cut k [.code (sub_ [1, 1, 0, 1, 0, 0, 0] (bodyOf Tryz.f119)), .code (sub_ [1, 1, 0, 1, 0, 0, 1] (bodyOf Tryz.f119)), .lp (sub_ [1, 1, 0, 1, 0, 0] (bodyOf Tryz.f119)), .blk 0, .code (sub_ [1, 1, 1] (bodyOf Tryz.f119))] (mkSt [(3, .c (.v (.int .i64 x3))), (6, .c (.sl 0)), (7, .c (.v (.int .i64 x7))), (8, .c (.v (.int .i64 x8)))] [.row .ro 3 (.i .i64) x6])
theorem impl_Hash.e3 (k : Nat) (x3 : Int) (x7 : Int) (x8 : Int) (x6 : List Int) : impl_Hash.p3 (k + 1) x3 x7 x8 x6 = if x8 < x7 then (if 0 ≤ x8 then (if x8 < (x6.length : Int) then (impl_fold.ap k x3 (x6.getD x8.toNat 0) fun r1 => impl_Hash.p3 k r1 x7 (wrap64 (x8 + 1)) x6) else none) else none) else (impl_Hash.ret x3) := by kernel_rfl
def impl_Hash.run (k : Nat) (h : HL eΓ [.l 3 (.i .i64)]) : Option (HL eΓ [.i .i64]) := evF env impl_Hash.Fs Tryz.f119 impl_Hash.cut [.l 3 (.i .i64)] [.i .i64] k h
theorem impl_Hash.ef (k : Nat) (h0 : List Int) : impl_Hash.run k (h0, ()) = impl_Hash.p3 k 11 (h0.length : Int) 0 h0 := by kernel_rfl
def impl_Hash.toH (t : Int) : HL eΓ [.i .i64] := (t, ())
def impl_Hash.spec : Spc env := ⟨119, [.l 3 (.i .i64)], [.i .i64], impl_Hash.run⟩
def impl_Hash.ap {R : Type} (k : Nat) (h0 : List Int) (K : Int → Option R) : Option R := (impl_Hash.run k (h0, ())).bind fun r => K (r.1 : Int)
theorem impl_Hash.ap_of {R : Type} {k : Nat} {h0 : List Int} {r0 : Int} {K : Int → Option R} (h : impl_Hash.run k (h0, ()) = some (r0, ())) : impl_Hash.ap k h0 K = K r0 := by unfold impl_Hash.ap; rw [h]; rfl
theorem impl_Hash.snd : Snd env impl_Hash.spec := evF_snd env_ok (sndC impl_fold.snd (sndN))
attribute [local irreducible] impl_Hash.run
theorem impl_Hash.rt (a0 : Int) : impl_Hash.ret a0 = some (impl_Hash.toH (a0)) := rfl
theorem impl_Hash.br (n : Nat) : (∀ K, n ≤ K → ∀ (x3 : Int) (x7 : Int) (x8 : Int) (x6 : List Int) t, impl_Hash.l0 n x3 x6 x7 x8 = some t → impl_Hash.p3 K x3 x7 x8 x6 = some (impl_Hash.toH t)) := by
  induction n using Nat.strongRecOn with
  | _ n ih =>
  intro K hK x3 x7 x8 x6 t h
  all_goals (rcases n with _ | k)
  all_goals (try (exact nos h))
  all_goals (obtain ⟨K, rfl⟩ : ∃ q, K = q + 1 := ⟨K - 1, by omega⟩)
  all_goals (first | rw [impl_Hash.e3])
  all_goals (simp only [impl_Hash.l0] at h)
  repeat' (with_reducible first
   | exact nos h
   | (cases some_inj h; exact impl_Hash.rt _)
   | exact (ih _ (by omega)) _ (by omega) _ _ _ _ _ h
   | (simp only [Option.bind_some] at h)
   | (refine ite_by h ?_ ?_ <;> (intro hc h; (try simp only [nrm] at hc)))
   | refine itT ?_
   | refine itF ?_
   | (refine bind_by h (fun t ht h => ?_); refine (impl_fold.ap_of (impl_fold.go ht _)).trans ?_; (try dsimp only at h ⊢))
   | (simp only [nr2] at h ⊢)
   | (exfalso; omega))
theorem impl_Hash.go {k : Nat} {l0 : List Int} {t} (h : impl_Hash.f k l0 = some t) (K : Nat) (hK : k ≤ K) : impl_Hash.run K (l0, ()) = some (impl_Hash.toH t) := by
  rw [impl_Hash.ef]
  (try dsimp only)
  unfold impl_Hash.f at h
  repeat' (with_reducible first
   | exact nos h
   | (cases some_inj h; exact impl_Hash.rt _)
   | exact (impl_Hash.br _) _ (by omega) _ _ _ _ _ h
   | (simp only [Option.bind_some] at h)
   | (refine ite_by h ?_ ?_ <;> (intro hc h; (try simp only [nrm] at hc)))
   | refine itT ?_
   | refine itF ?_
   | (refine bind_by h (fun t ht h => ?_); refine (impl_fold.ap_of (impl_fold.go ht _)).trans ?_; (try dsimp only at h ⊢))
   | (simp only [nr2] at h ⊢)
   | (exfalso; omega))
def impl_PieceDigest.Fs : List (Spc env) := [impl_IsFeature.spec, impl_Hash.spec, impl_PartsOf.spec]
def impl_PieceDigest.fin : St eΓ → Option (HL eΓ [.i .i64]) := finR env Tryz.f169.results.toList [.i .i64]
def impl_PieceDigest.cut : Nat → Option (List (Lv SC)) := lk [(5, [⟨1, none, false⟩, ⟨2, none, false⟩, ⟨5, none, false⟩, ⟨24, none, false⟩, ⟨25, none, false⟩])]
def impl_PieceDigest.ret (r0 : Int) : Option (HL eΓ [.i .i64]) := some (r0, ())
def impl_PieceDigest.p5 (k : Nat) (x1 : Int) (x24 : Int) (x25 : Int) (b0_0 : Int) (b0_1 : Int) (b0_2 : Int) (b0_3 : ByteArray) (x5 : List Int) (b2 : List S59) : Option (HL eΓ [.i .i64]) := evM env impl_PieceDigest.Fs Tryz.f169.ntmps impl_PieceDigest.fin impl_PieceDigest.cut k [.code (sub_ [1, 1, 1, 0, 1, 0, 0, 0] (bodyOf Tryz.f169)), .code (sub_ [1, 1, 1, 0, 1, 0, 0, 1] (bodyOf Tryz.f169)), .lp (sub_ [1, 1, 1, 0, 1, 0, 0] (bodyOf Tryz.f169)), .blk 0, .code (sub_ [1, 1, 1, 1] (bodyOf Tryz.f169))] (mkSt [(1, .c (.v (.int .i64 x1))), (2, .c (.ptr 0 0)), (5, .c (.sl 1)), (24, .c (.v (.int .i64 x24))), (25, .c (.v (.int .i64 x25)))] [.box 57 [.v (.int .i64 b0_0), .v (.int .i64 b0_1), .v (.int .i64 b0_2), .v (.string b0_3), .sl 2], .row .own 3 (.i .i64) x5, .row .ro 59 (.st .s59) b2])
theorem impl_PieceDigest.e5 (k : Nat) (x1 : Int) (x24 : Int) (x25 : Int) (b0_0 : Int) (b0_1 : Int) (b0_2 : Int) (b0_3 : ByteArray) (x5 : List Int) (b2 : List S59) : impl_PieceDigest.p5 (k + 1) x1 x24 x25 b0_0 b0_1 b0_2 b0_3 x5 b2 = if x25 < x24 then (if 0 ≤ x25 then (if x25 < (b0_3.size : Int) then (if (x5.length + 1) * 8 ≤ 140737488355328 then (impl_PieceDigest.p5 k x1 x24 (wrap64 (x25 + 1)) b0_0 b0_1 b0_2 b0_3 (x5 ++ [wrap64 ((bt b0_3 x25))]) b2) else none) else none) else none) else (if (x5.length + 1) * 8 ≤ 140737488355328 then (if b0_1 = 1 then (if ¬ x1 = 0 then (impl_PieceDigest.ret 0) else (if 0 < (b2.length : Int) then (if 0 < (b2.length : Int) then (if ((x5 ++ [x1]).length + 2) * 8 ≤ 140737488355328 then (impl_Hash.ap k ((x5 ++ [x1]) ++ [(rd_T59 b2 0).f0, (rd_T59 b2 0).f1]) fun r1 => impl_PieceDigest.ret r1) else none) else none) else none)) else (impl_PartsOf.ap k (⟨b0_0, b0_1, b0_2, b0_3, b2⟩ : S57) fun r2 => if x1 < 0 then (impl_PieceDigest.ret 0) else (if x1 ≥ (r2.length : Int) then (impl_PieceDigest.ret 0) else (if 0 ≤ x1 then (if x1 < (r2.length : Int) then (if ((x5 ++ [x1]).length + 4) * 8 ≤ 140737488355328 then (impl_Hash.ap k ((x5 ++ [x1]) ++ [(rd_T149 r2 x1).f0.f0, (rd_T149 r2 x1).f0.f1, (rd_T149 r2 x1).f1.f0, (rd_T149 r2 x1).f1.f1]) fun r3 => impl_PieceDigest.ret r3) else none) else none) else none)))) else none) := by kernel_rfl
def impl_PieceDigest.run (k : Nat) (h : HL eΓ [.st .s57, .i .i64]) : Option (HL eΓ [.i .i64]) := evF env impl_PieceDigest.Fs Tryz.f169 impl_PieceDigest.cut [.st .s57, .i .i64] [.i .i64] k h
theorem impl_PieceDigest.ef (k : Nat) (h0 : S57) (h1 : Int) : impl_PieceDigest.run k (h0, h1, ()) = impl_IsFeature.ap k (⟨h0.f0, h0.f1, h0.f2, h0.f3, h0.f4⟩ : S57) fun r1 => if (!r1) = true then (impl_PieceDigest.ret 0) else (impl_PieceDigest.p5 k h1 (h0.f3.size : Int) 0 h0.f0 h0.f1 h0.f2 h0.f3 ([h0.f0, h0.f1, h0.f2, (h0.f3.size : Int)] : List Int) h0.f4) := by kernel_rfl
def impl_PieceDigest.toH (t : Int) : HL eΓ [.i .i64] := (t, ())
def impl_PieceDigest.spec : Spc env := ⟨169, [.st .s57, .i .i64], [.i .i64], impl_PieceDigest.run⟩
def impl_PieceDigest.ap {R : Type} (k : Nat) (h0 : S57) (h1 : Int) (K : Int → Option R) : Option R := (impl_PieceDigest.run k (h0, h1, ())).bind fun r => K (r.1 : Int)
theorem impl_PieceDigest.ap_of {R : Type} {k : Nat} {h0 : S57} {h1 : Int} {r0 : Int} {K : Int → Option R} (h : impl_PieceDigest.run k (h0, h1, ()) = some (r0, ())) : impl_PieceDigest.ap k h0 h1 K = K r0 := by unfold impl_PieceDigest.ap; rw [h]; rfl
theorem impl_PieceDigest.snd : Snd env impl_PieceDigest.spec := evF_snd env_ok (sndC impl_IsFeature.snd (sndC impl_Hash.snd (sndC impl_PartsOf.snd (sndN))))
attribute [local irreducible] impl_PieceDigest.run
theorem impl_PieceDigest.rt (a0 : Int) : impl_PieceDigest.ret a0 = some (impl_PieceDigest.toH (a0)) := rfl
theorem impl_PieceDigest.br (n : Nat) : (∀ K, n ≤ K → ∀ (x1 : Int) (x24 : Int) (x25 : Int) (b0_0 : Int) (b0_1 : Int) (b0_2 : Int) (b0_3 : ByteArray) (x5 : List Int) (b2 : List S59) t, impl_PieceDigest.l0 n x1 x5 x24 x25 b0_0 b0_1 b0_2 b0_3 b2 = some t → impl_PieceDigest.p5 K x1 x24 x25 b0_0 b0_1 b0_2 b0_3 x5 b2 = some (impl_PieceDigest.toH t)) := by
  induction n using Nat.strongRecOn with
  | _ n ih =>
  intro K hK x1 x24 x25 b0_0 b0_1 b0_2 b0_3 x5 b2 t h
  all_goals (rcases n with _ | k)
  all_goals (try (exact nos h))
  all_goals (obtain ⟨K, rfl⟩ : ∃ q, K = q + 1 := ⟨K - 1, by omega⟩)
  all_goals (first | rw [impl_PieceDigest.e5])
  all_goals (simp only [impl_PieceDigest.l0] at h)
  repeat' (with_reducible first
   | exact nos h
   | (cases some_inj h; exact impl_PieceDigest.rt _)
   | exact (ih _ (by omega)) _ (by omega) _ _ _ _ _ _ _ _ _ _ h
   | (simp only [Option.bind_some] at h)
   | (refine ite_by h ?_ ?_ <;> (intro hc h; (try simp only [nrm] at hc)))
   | refine itT ?_
   | refine itF ?_
   | (refine bind_by h (fun t ht h => ?_); (first | refine (impl_IsFeature.ap_of (impl_IsFeature.go ht _ (by omega))).trans ?_ | refine (impl_Hash.ap_of (impl_Hash.go ht _ (by omega))).trans ?_ | refine (impl_PartsOf.ap_of (impl_PartsOf.go ht _ (by omega))).trans ?_); (try dsimp only at h ⊢))
   | (simp only [nr2] at h ⊢)
   | (exfalso; omega))
theorem impl_PieceDigest.go {k : Nat} {a0_0 : Int} {a0_1 : Int} {a0_2 : Int} {a0_3 : ByteArray} {l0_4 : List S59} {a1 : Int} {t} (h : impl_PieceDigest.f k a0_0 a0_1 a0_2 a0_3 l0_4 a1 = some t) (K : Nat) (hK : k ≤ K) : impl_PieceDigest.run K ((⟨a0_0, a0_1, a0_2, a0_3, l0_4⟩ : S57), a1, ()) = some (impl_PieceDigest.toH t) := by
  rw [impl_PieceDigest.ef]
  (try dsimp only)
  unfold impl_PieceDigest.f at h
  repeat' (with_reducible first
   | exact nos h
   | (cases some_inj h; exact impl_PieceDigest.rt _)
   | exact (impl_PieceDigest.br _) _ (by omega) _ _ _ _ _ _ _ _ _ _ h
   | (simp only [Option.bind_some] at h)
   | (refine ite_by h ?_ ?_ <;> (intro hc h; (try simp only [nrm] at hc)))
   | refine itT ?_
   | refine itF ?_
   | (refine bind_by h (fun t ht h => ?_); (first | refine (impl_IsFeature.ap_of (impl_IsFeature.go ht _ (by omega))).trans ?_ | refine (impl_Hash.ap_of (impl_Hash.go ht _ (by omega))).trans ?_ | refine (impl_PartsOf.ap_of (impl_PartsOf.go ht _ (by omega))).trans ?_); (try dsimp only at h ⊢))
   | (simp only [nr2] at h ⊢)
   | (exfalso; omega))
def impl_digests.Fs : List (Spc env) := [impl_FindFeature.spec, impl_PieceDigest.spec]
def impl_digests.fin : St eΓ → Option (HL eΓ [.l 3 (.i .i64)]) := finR env Tryz.f120.results.toList [.l 3 (.i .i64)]
def impl_digests.cut : Nat → Option (List (Lv SC)) := lk [(3, [⟨0, none, false⟩, ⟨5, none, false⟩, ⟨9, none, false⟩, ⟨10, none, false⟩, ⟨11, none, false⟩])]
def impl_digests.ret (r0 : List Int) : Option (HL eΓ [.l 3 (.i .i64)]) := some (r0, ())
def impl_digests.p3 (k : Nat) (x10 : Int) (x11 : Int) (x0 : List S57) (x5 : List Int) (x9 : List S83) : Option (HL eΓ [.l 3 (.i .i64)]) := evM env impl_digests.Fs Tryz.f120.ntmps impl_digests.fin impl_digests.cut k [.code (sub_ [1, 1, 0, 1, 0, 0, 0] (bodyOf Tryz.f120)), .code (sub_ [1, 1, 0, 1, 0, 0, 1] (bodyOf Tryz.f120)), .lp (sub_ [1, 1, 0, 1, 0, 0] (bodyOf Tryz.f120)), .blk 0, .code (sub_ [1, 1, 1] (bodyOf Tryz.f120))] (mkSt [(0, .c (.sl 0)), (5, .c (.sl 1)), (9, .c (.sl 2)), (10, .c (.v (.int .i64 x10))), (11, .c (.v (.int .i64 x11)))] [.row .ro 57 (.st .s57) x0, .row .own 3 (.i .i64) x5, .row .ro 83 (.st .s83) x9])
theorem impl_digests.e3 (k : Nat) (x10 : Int) (x11 : Int) (x0 : List S57) (x5 : List Int) (x9 : List S83) : impl_digests.p3 (k + 1) x10 x11 x0 x5 x9 = if x11 < x10 then (if 0 ≤ x11 then (if x11 < (x9.length : Int) then (impl_FindFeature.ap k x0 ((rd_T83 x9 x11).f0) fun r1 => if 0 ≤ r1 then (if r1 < (x0.length : Int) then (impl_PieceDigest.ap k (⟨(rd_T57 x0 r1).f0, (rd_T57 x0 r1).f1, (rd_T57 x0 r1).f2, (rd_T57 x0 r1).f3, (rd_T57 x0 r1).f4⟩ : S57) ((rd_T83 x9 x11).f1) fun r2 => if (x5.length + 1) * 8 ≤ 140737488355328 then (impl_digests.p3 k x10 (wrap64 (x11 + 1)) x0 (x5 ++ [r2]) x9) else none) else none) else none) else none) else none) else (impl_digests.ret x5) := by kernel_rfl
def impl_digests.run (k : Nat) (h : HL eΓ [.l 57 (.st .s57), .l 83 (.st .s83)]) : Option (HL eΓ [.l 3 (.i .i64)]) := evF env impl_digests.Fs Tryz.f120 impl_digests.cut [.l 57 (.st .s57), .l 83 (.st .s83)] [.l 3 (.i .i64)] k h
theorem impl_digests.ef (k : Nat) (h0 : List S57) (h1 : List S83) : impl_digests.run k (h0, h1, ()) = impl_digests.p3 k (h1.length : Int) 0 h0 ([] : List Int) h1 := by kernel_rfl
def impl_digests.toH (t : List Int) : HL eΓ [.l 3 (.i .i64)] := (t, ())
def impl_digests.spec : Spc env := ⟨120, [.l 57 (.st .s57), .l 83 (.st .s83)], [.l 3 (.i .i64)], impl_digests.run⟩
def impl_digests.ap {R : Type} (k : Nat) (h0 : List S57) (h1 : List S83) (K : (List Int) → Option R) : Option R := (impl_digests.run k (h0, h1, ())).bind fun r => K (r.1 : List Int)
theorem impl_digests.ap_of {R : Type} {k : Nat} {h0 : List S57} {h1 : List S83} {r0 : List Int} {K : (List Int) → Option R} (h : impl_digests.run k (h0, h1, ()) = some (r0, ())) : impl_digests.ap k h0 h1 K = K r0 := by unfold impl_digests.ap; rw [h]; rfl
theorem impl_digests.snd : Snd env impl_digests.spec := evF_snd env_ok (sndC impl_FindFeature.snd (sndC impl_PieceDigest.snd (sndN)))
attribute [local irreducible] impl_digests.run
theorem impl_digests.rt (a0 : List Int) : impl_digests.ret a0 = some (impl_digests.toH (a0)) := rfl
theorem impl_digests.br (n : Nat) : (∀ K, n ≤ K → ∀ (x10 : Int) (x11 : Int) (x0 : List S57) (x5 : List Int) (x9 : List S83) t, impl_digests.l0 n x0 x5 x9 x10 x11 = some t → impl_digests.p3 K x10 x11 x0 x5 x9 = some (impl_digests.toH t)) := by
  induction n using Nat.strongRecOn with
  | _ n ih =>
  intro K hK x10 x11 x0 x5 x9 t h
  all_goals (rcases n with _ | k)
  all_goals (try (exact nos h))
  all_goals (obtain ⟨K, rfl⟩ : ∃ q, K = q + 1 := ⟨K - 1, by omega⟩)
  all_goals (first | rw [impl_digests.e3])
  all_goals (simp only [impl_digests.l0] at h)
  repeat' (with_reducible first
   | exact nos h
   | (cases some_inj h; exact impl_digests.rt _)
   | exact (ih _ (by omega)) _ (by omega) _ _ _ _ _ _ h
   | (simp only [Option.bind_some] at h)
   | (refine ite_by h ?_ ?_ <;> (intro hc h; (try simp only [nrm] at hc)))
   | refine itT ?_
   | refine itF ?_
   | (refine bind_by h (fun t ht h => ?_); (first | refine (impl_FindFeature.ap_of (impl_FindFeature.go ht _)).trans ?_ | refine (impl_PieceDigest.ap_of (impl_PieceDigest.go ht _ (by omega))).trans ?_); (try dsimp only at h ⊢))
   | (simp only [nr2] at h ⊢)
   | (exfalso; omega))
theorem impl_digests.go {k : Nat} {l0 : List S57} {l1 : List S83} {t} (h : impl_digests.f k l0 l1 = some t) (K : Nat) (hK : k ≤ K) : impl_digests.run K (l0, l1, ()) = some (impl_digests.toH t) := by
  rw [impl_digests.ef]
  (try dsimp only)
  unfold impl_digests.f at h
  repeat' (with_reducible first
   | exact nos h
   | (cases some_inj h; exact impl_digests.rt _)
   | exact (impl_digests.br _) _ (by omega) _ _ _ _ _ _ h
   | (simp only [Option.bind_some] at h)
   | (refine ite_by h ?_ ?_ <;> (intro hc h; (try simp only [nrm] at hc)))
   | refine itT ?_
   | refine itF ?_
   | (refine bind_by h (fun t ht h => ?_); (first | refine (impl_FindFeature.ap_of (impl_FindFeature.go ht _)).trans ?_ | refine (impl_PieceDigest.ap_of (impl_PieceDigest.go ht _ (by omega))).trans ?_); (try dsimp only at h ⊢))
   | (simp only [nr2] at h ⊢)
   | (exfalso; omega))
def impl_TileDigest.Fs : List (Spc env) := [impl_TileBox.spec, impl_IsSource.spec, impl_PiecesIn.spec, impl_digests.spec, impl_Hash.spec]
def impl_TileDigest.cut : Nat → Option (List (Lv SC)) := lk []
def impl_TileDigest.ret (r0 : Int) : Option (HL eΓ [.i .i64]) := some (r0, ())
def impl_TileDigest.run (k : Nat) (h : HL eΓ [.l 57 (.st .s57), .i .i64]) : Option (HL eΓ [.i .i64]) := evF env impl_TileDigest.Fs Tryz.f70 impl_TileDigest.cut [.l 57 (.st .s57), .i .i64] [.i .i64] k h
theorem impl_TileDigest.ef (k : Nat) (h0 : List S57) (h1 : Int) : impl_TileDigest.run k (h0, h1, ()) = impl_TileBox.ap k h1 fun r1_0 r1_1 => if (!r1_1) = true then (impl_TileDigest.ret 0) else (impl_IsSource.ap k h0 fun r2 => if (!r2) = true then (impl_TileDigest.ret 0) else (impl_PiecesIn.ap k h0 h1 fun r3 => impl_digests.ap k h0 r3 fun r4 => impl_Hash.ap k r4 fun r5 => impl_TileDigest.ret r5)) := by kernel_rfl
def impl_TileDigest.toH (t : Int) : HL eΓ [.i .i64] := (t, ())
def impl_TileDigest.spec : Spc env := ⟨70, [.l 57 (.st .s57), .i .i64], [.i .i64], impl_TileDigest.run⟩
theorem impl_TileDigest.snd : Snd env impl_TileDigest.spec := evF_snd env_ok (sndC impl_TileBox.snd (sndC impl_IsSource.snd (sndC impl_PiecesIn.snd (sndC impl_digests.snd (sndC impl_Hash.snd (sndN))))))
attribute [local irreducible] impl_TileDigest.run
theorem impl_TileDigest.rt (a0 : Int) : impl_TileDigest.ret a0 = some (impl_TileDigest.toH (a0)) := rfl
theorem impl_TileDigest.go {k : Nat} {l0 : List S57} {a1 : Int} {t} (h : impl_TileDigest.f k l0 a1 = some t) (K : Nat) (hK : k ≤ K) : impl_TileDigest.run K (l0, a1, ()) = some (impl_TileDigest.toH t) := by
  rw [impl_TileDigest.ef]
  (try dsimp only)
  unfold impl_TileDigest.f at h
  repeat' (with_reducible first
   | exact nos h
   | (cases some_inj h; exact impl_TileDigest.rt _)
   | ((have q : impl_TileDigest.j0 k _ _ _ = some _ := h; clear q); rcases k with _ | k <;> simp only [impl_TileDigest.j0, reduceCtorEq] at h)
   | (simp only [Option.bind_some] at h)
   | (refine ite_by h ?_ ?_ <;> (intro hc h; (try simp only [nrm] at hc)))
   | refine itT ?_
   | refine itF ?_
   | (refine bind_by h (fun t ht h => ?_); (first | refine (impl_TileBox.ap_of (impl_TileBox.go ht _)).trans ?_ | refine (impl_IsSource.ap_of (impl_IsSource.go ht _ (by omega))).trans ?_ | refine (impl_PiecesIn.ap_of (impl_PiecesIn.go ht _ (by omega))).trans ?_ | refine (impl_digests.ap_of (impl_digests.go ht _ (by omega))).trans ?_ | refine (impl_Hash.ap_of (impl_Hash.go ht _ (by omega))).trans ?_); (try dsimp only at h ⊢))
   | (simp only [nr2] at h ⊢)
   | (exfalso; omega))
theorem impl_TileDigest.calls (k : Nat) (A0 : Option Addr) (c0 : Nat) (l0 : List (S57)) (a1 : Int) (r : Int) (w : World) (hr0 : Kd.C k57 w A0 l0.length l0) (hc0 : l0.length ≤ c0) (h : impl_TileDigest.f k l0 a1 = some r) :
  Calls Tryz.prog 70 #[.slice A0 l0.length c0, .int .i64 a1] w fun e w' => e = .returned (.int .i64 r) ∧ Below w.heap.size w w' := by
  refine (impl_TileDigest.snd.calls _ _ _ (impl_TileDigest.go h k (Nat.le_refl k)) w [.slice A0 l0.length c0, .int .i64 a1] ⟨⟨_, _, rfl, hc0, hr0⟩, rfl, trivial⟩).mono ?_
  rintro e w' ⟨v, rfl, hB, vs, oks, rfl, hR, _⟩
  obtain ⟨x0_, vs, o0_, oks, rfl, rfl, m0_, hR⟩ := rmsC hR
  obtain rfl := rmsN hR
  obtain rfl := List.singleton_inj.1 (show [x0_] = [Value.int .i64 r] from m0_)
  exact ⟨rfl, hB⟩
set_option maxHeartbeats 8000000 in
set_option maxRecDepth 100000 in
theorem impl_SameElsewhere.calls (k : Nat) (A0 : Option Addr) (c0 : Nat) (l0 : List (S57)) (A1 : Option Addr) (c1 : Nat) (l1 : List (S57)) (A2 : Option Addr) (c2 : Nat) (l2 : List Int) (r : Bool) (w : World) (hr0 : Kd.C k57 w A0 l0.length l0) (hc0 : l0.length ≤ c0) (hr1 : Kd.C k57 w A1 l1.length l1) (hc1 : l1.length ≤ c1) (hr2 : Kd.C (Kd.int .i64) w A2 l2.length l2) (hc2 : l2.length ≤ c2) (h : impl_SameElsewhere.f k l0 l1 l2 = some r) :
  Calls Tryz.prog 31 #[.slice A0 l0.length c0, .slice A1 l1.length c1, .slice A2 l2.length c2] w fun e w' => e = .returned (.bool r) ∧ Below w.heap.size w w' := by
 have HR0 := Aside0.mk hr0; have HC0 := Aside0.mk hc0; clear hr0 hc0; have HR1 := Aside0.mk hr1; have HC1 := Aside0.mk hc1; clear hr1 hc1; have HR2 := Aside0.mk hr2; have HC2 := Aside0.mk hc2; clear hr2 hc2; have HB := Aside0.mk (Below.refl w.heap.size w); have H : ((impl_IsSource.f k l0).bind fun t819 => (if t819 = true then ((impl_IsSource.f k l1).bind fun t820 => (impl_SameElsewhere.j0 k l0 l1 l2 (!t820))) else (impl_SameElsewhere.j0 k l0 l1 l2 true))) = some r := h; clear h; have HC4 := Aside0.mk H; clear H
 go_enter Tryz.func31, Tryz.ntmps31
 go_upto_region 1 with (fail)
 go_cut [17] (fun v17 wc => ∃ (kq : Nat) (x17_3 : Bool), v17 = .bool x17_3 ∧ Aside0 (impl_SameElsewhere.j0 kq l0 l1 l2 x17_3 = some r) ∧ Aside0 (kq ≤ k) ∧ Aside0 (Below w.heap.size w wc))
 case first =>
  have H := HC4.out; clear HC4; replace H := Option.bind_eq_some_iff.mp H; obtain ⟨t819, A50, H⟩ := H; have A5 := Aside0.mk A50; clear A50
  by_cases c6 : t819 = true
  ·subst c6; replace H := ift H; replace H := Option.bind_eq_some_iff.mp H; obtain ⟨t820, A70, H⟩ := H; have A7 := Aside0.mk A70; clear A70; have H' := Aside0.mk H; clear H; go_wp2_with (first | ((with_reducible refine gt (some 11) rfl ?_); refine gc Tryz.func65 (impl_IsSource.calls k _ _ l0 true _ cz0 HC0.out A5.out) ?_; rintro e w8 ⟨rfl, hb⟩; refine ⟨_, rfl, ?_⟩; replace HB := Aside0.mk (below_step bz hb); (try clear hb)) | (go_at_call 65; (with_reducible refine (impl_IsSource.calls k _ _ l1 t820 _ ?side1 ?side2 A7.out).mono ?_); (case side1 => repeat (first | exact (Kd.C_below HR1.out HB.out) | (with_reducible refine Kd.C_alloc ?_ _) | (with_reducible refine Kd.C_drewN ?_ _) | (with_reducible refine Kd.C_drew ?_))); (case side2 => exact HC1.out); rintro e w9 ⟨rfl, hb⟩; replace HB := Aside0.mk (below_step bz hb); (try clear hb)))
   go_meet
   case rel => exact ⟨_, (!t820), rz, H', ⟨qz⟩, ⟨bz⟩⟩
  ·replace c6 := Bool.eq_false_iff.mpr c6; subst c6; replace H := iff_ H; have H' := Aside0.mk H; clear H; go_wp2_with (first | ((with_reducible refine gt (some 11) rfl ?_); refine gc Tryz.func65 (impl_IsSource.calls k _ _ l0 false _ cz0 HC0.out A5.out) ?_; rintro e w10 ⟨rfl, hb⟩; refine ⟨_, rfl, ?_⟩; replace HB := Aside0.mk (below_step bz hb); (try clear hb)))
   go_meet
   case rel => exact ⟨_, (true), rz, H', ⟨qz⟩, ⟨bz⟩⟩
 case rest =>
  clear HC4; (try clear c1); (try clear c2); (try clear p2); (try clear c3); (try clear c6); obtain ⟨kq, x17_3, rfl, HA, HJ3, HB⟩ := hcut
  cases kq with
  | zero => exact absurd HA.out (by simp [impl_SameElsewhere.j0])
  | succ kj3 =>
   have H := HA.out; clear HA; simp only [impl_SameElsewhere.j0] at H
   by_cases c11 : x17_3 = true
   ·subst c11; replace H := ift H; obtain rfl := Option.some.inj H; go_wp2; go_ret
    exact ⟨ez, bz⟩
   ·replace c11 := Bool.eq_false_iff.mpr c11; subst c11; replace H := iff_ H; replace H := Option.bind_eq_some_iff.mp H; obtain ⟨t821, A120, H⟩ := H; have A12 := Aside0.mk A120; clear A120; have H' := Aside0.mk H; clear H; go_wp2_with (first | ((with_reducible refine gt (some 20) rfl ?_); refine gc Tryz.func29 (impl_ChangedTiles.calls kj3 A0 c0 l0 A1 c1 l1 t821 _ cz0 HC0.out (cz (Kd.C_below HR1.out HB.out)) HC1.out A12.out) ?_; rintro e w13 ⟨v822, rfl, ho0, hb⟩; refine ⟨_, rfl, ?_⟩; have HO823 := Aside0.mk (Kd.R_lower ho0 (below_size bz)); replace HB := Aside0.mk (below_step bz hb); (try clear hb); (try clear ho0)))
    go_loopg [23] kj3 (fun kq v23 w' => ∃ (x23_2 : Int), v23 = .int .i64 x23_2 ∧ Aside0 (impl_SameElsewhere.l0 kq l0 l1 t821 l2 (l2.length : Int) x23_2 = some r) ∧ Aside0 (kq ≤ kj3) ∧ Aside0 (Kd.R (Kd.int .i64) 3 w' w.heap.size (fun _ => True) v822 t821) ∧ Aside0 (Below w.heap.size w w'))
    case atStart => exact ⟨(0), rz, H', ⟨Nat.le_refl _⟩, ⟨hr HO823.out⟩, ⟨bz⟩⟩
    case round =>
     clear H'; (try clear c1); (try clear c2); (try clear p2); (try clear c3); (try clear c6); (try clear c11); (try clear p2); obtain ⟨x23_2, rfl, HA, HK2, HO_7, HB⟩ := hrel
     cases gk with
     | zero => exact absurd HA.out (by simp [impl_SameElsewhere.l0])
     | succ k2 =>
      have H := HA.out; clear HA; simp only [impl_SameElsewhere.l0] at H
      by_cases c14 : x23_2 < (l2.length : Int)
      ·rw [if_pos c14] at H; have c14b0 := decide_eq_true c14; clear c14
       by_cases c15 : 0 ≤ x23_2
       ·rw [if_pos c15] at H; have c15b0 := decide_eq_true c15; clear c15
        by_cases c16 : x23_2 < (l2.length : Int)
        ·rw [if_pos c16] at H; have c16b0 := decide_eq_true c16; clear c16; replace H := Option.bind_eq_some_iff.mp H; obtain ⟨t825, A170, H⟩ := H; have A17 := Aside0.mk A170; clear A170
         by_cases c18 : t825 = true
         ·subst c18; replace H := ift H; have H' := Aside0.mk H; clear H; have p824 : 0 ≤ (x23_2 : Int) := of_decide_eq_true az; have q824 : x23_2 < (l2.length : Int) := of_decide_eq_true az; obtain ⟨ad824, e824, hx824_0⟩ := Kd.at_int HR2.out x23_2 p824 q824
          cases e824
          replace hx824_0 := xz HB hx824_0; replace p824 := eq_true p824; replace q824 := eq_true q824; obtain ⟨Ao19, co19, eo19⟩ := Kd.R_slice HO_7.out; subst eo19; go_wp2_with (first | ((with_reducible refine gt (some 29) rfl ?_); refine gc Tryz.func54 (slices_Contains_int_int.calls k2 _ _ t821 (rd l2 x23_2) true _ (cz (Kd.R_reads' HO_7.out).2.2) ((Kd.R_reads' HO_7.out).2.1) A17.out) ?_; rintro e w' ⟨rfl, ⟨nd, rfl⟩⟩; refine ⟨_, rfl, ?_⟩))
          go_roundg k2
          case measure => have := HJ3.out; have := HK2.out; omega
          case rel => exact ⟨(wrap64 (x23_2 + 1)), rz, H', ⟨by have := HJ3.out; have := HK2.out; omega⟩, ⟨hr HO_7.out⟩, ⟨bz⟩⟩
         ·replace c18 := Bool.eq_false_iff.mpr c18; subst c18; replace H := iff_ H; replace H := Option.bind_eq_some_iff.mp H; obtain ⟨t826, A200, H⟩ := H; have A20 := Aside0.mk A200; clear A200; replace H := Option.bind_eq_some_iff.mp H; obtain ⟨t827, A210, H⟩ := H; have A21 := Aside0.mk A210; clear A210
          by_cases c22 : t826 = t827
          ·rw [if_pos c22] at H; have c22b0 : (t826 == t827) = true := beq_iff_eq.mpr c22; have c22b1 : (t826 != t827) = false := bne_eq_false_iff_eq.mpr c22; clear c22; have H' := Aside0.mk H; clear H; have p824 : 0 ≤ (x23_2 : Int) := of_decide_eq_true az; have q824 : x23_2 < (l2.length : Int) := of_decide_eq_true az; obtain ⟨ad824, e824, hx824_0⟩ := Kd.at_int HR2.out x23_2 p824 q824
           cases e824
           replace hx824_0 := xz HB hx824_0; replace p824 := eq_true p824; replace q824 := eq_true q824; obtain ⟨Ao23, co23, eo23⟩ := Kd.R_slice HO_7.out; subst eo23; go_wp2_with (first | ((with_reducible refine gt (some 29) rfl ?_); refine gc Tryz.func54 (slices_Contains_int_int.calls k2 _ _ t821 (rd l2 x23_2) false _ (cz (Kd.R_reads' HO_7.out).2.2) ((Kd.R_reads' HO_7.out).2.1) A17.out) ?_; rintro e w' ⟨rfl, ⟨nd, rfl⟩⟩; refine ⟨_, rfl, ?_⟩) | (go_at_call 70; (with_reducible refine (impl_TileDigest.calls k2 _ _ l0 (rd l2 x23_2) t826 _ ?side1 ?side2 A20.out).mono ?_); (case side1 => repeat (first | exact (Kd.C_below HR0.out bz) | (with_reducible refine Kd.C_alloc ?_ _) | (with_reducible refine Kd.C_drewN ?_ _) | (with_reducible refine Kd.C_drew ?_))); (case side2 => exact HC0.out); rintro e w24 ⟨rfl, hb⟩; replace HO_7 := Aside0.mk (rbz HO_7 hb); replace HB := Aside0.mk (below_step bz hb); (try clear hb)) | (go_at_call 70; (with_reducible refine (impl_TileDigest.calls k2 _ _ l1 (rd l2 x23_2) t827 _ ?side1 ?side2 A21.out).mono ?_); (case side1 => repeat (first | exact (Kd.C_below HR1.out HB.out) | (with_reducible refine Kd.C_alloc ?_ _) | (with_reducible refine Kd.C_drewN ?_ _) | (with_reducible refine Kd.C_drew ?_))); (case side2 => exact HC1.out); rintro e w25 ⟨rfl, hb⟩; replace HO_7 := Aside0.mk (rbz HO_7 hb); replace HB := Aside0.mk (below_step bz hb); (try clear hb)))
           go_roundg k2
           case measure => have := HJ3.out; have := HK2.out; omega
           case rel => exact ⟨(wrap64 (x23_2 + 1)), rz, H', ⟨by have := HJ3.out; have := HK2.out; omega⟩, ⟨hr HO_7.out⟩, ⟨bz⟩⟩
          ·rw [if_neg c22] at H; have c22b0 : (t826 == t827) = false := beq_eq_false_iff_ne.mpr c22; have c22b1 : (t826 != t827) = true := bne_iff_ne.mpr c22; obtain rfl := Option.some.inj H; have p824 : 0 ≤ (x23_2 : Int) := of_decide_eq_true az; have q824 : x23_2 < (l2.length : Int) := of_decide_eq_true az; obtain ⟨ad824, e824, hx824_0⟩ := Kd.at_int HR2.out x23_2 p824 q824
           cases e824
           replace hx824_0 := xz HB hx824_0; replace p824 := eq_true p824; replace q824 := eq_true q824; obtain ⟨Ao26, co26, eo26⟩ := Kd.R_slice HO_7.out; subst eo26; go_wp2_with (first | ((with_reducible refine gt (some 29) rfl ?_); refine gc Tryz.func54 (slices_Contains_int_int.calls k2 _ _ t821 (rd l2 x23_2) false _ (cz (Kd.R_reads' HO_7.out).2.2) ((Kd.R_reads' HO_7.out).2.1) A17.out) ?_; rintro e w' ⟨rfl, ⟨nd, rfl⟩⟩; refine ⟨_, rfl, ?_⟩) | (go_at_call 70; (with_reducible refine (impl_TileDigest.calls k2 _ _ l0 (rd l2 x23_2) t826 _ ?side1 ?side2 A20.out).mono ?_); (case side1 => repeat (first | exact (Kd.C_below HR0.out bz) | (with_reducible refine Kd.C_alloc ?_ _) | (with_reducible refine Kd.C_drewN ?_ _) | (with_reducible refine Kd.C_drew ?_))); (case side2 => exact HC0.out); rintro e w27 ⟨rfl, hb⟩; replace HO_7 := Aside0.mk (rbz HO_7 hb); replace HB := Aside0.mk (below_step bz hb); (try clear hb)) | (go_at_call 70; (with_reducible refine (impl_TileDigest.calls k2 _ _ l1 (rd l2 x23_2) t827 _ ?side1 ?side2 A21.out).mono ?_); (case side1 => repeat (first | exact (Kd.C_below HR1.out HB.out) | (with_reducible refine Kd.C_alloc ?_ _) | (with_reducible refine Kd.C_drewN ?_ _) | (with_reducible refine Kd.C_drew ?_))); (case side2 => exact HC1.out); rintro e w28 ⟨rfl, hb⟩; replace HO_7 := Aside0.mk (rbz HO_7 hb); replace HB := Aside0.mk (below_step bz hb); (try clear hb))); go_ret
           exact ⟨ez, bz⟩
        ·rw [if_neg c16] at H
         exact absurd H (by simp)
       ·rw [if_neg c15] at H
        exact absurd H (by simp)
      ·rw [if_neg c14] at H; have c14b0 := decide_eq_false c14; clear c14; obtain rfl := Option.some.inj H; go_wp2; go_ret
       exact ⟨ez, bz⟩
end
end Go.Proofs.YtellpkihlbbnhaaGreat.PFnExactSameElsewhere
