-- Written by a program of this session's (evlaw.py).
import Derived.Test.YtkebhlkbnnlegaaPFnExactCanShrinkx3
namespace Go.Proofs.Ytkebhlkbnnlegaa.PFnExactCanShrink
open Go.RowKit Go.Proofs.YtkebhlkbnnlegaaW.PrintWords Go.Proofs.YtkebhlkbnnlegaaW.PrintLast Go.Proofs.YtkebhlkbnnlegaaW.PrintMore Go.Proofs.YtkebhlkbnnlegaaGeo Go.Proofs.YtkebhlkbnnlegaaHand Go.Proofs.YtkebhlkbnnlegaaMeet Go.Proofs.YtkebhlkbnnlegaaQuiet Go.Proofs.YtkebhlkbnnlegaaZ
open Go Go.Proofs.YtkebhlkbnnlegaaEv
attribute [local go_sem] max2_int min2_int max_two min_two max_three min_three max_four min_four   -- for this text's walks alone
set_option linter.unusedVariables false
set_option linter.unusedSimpArgs false



set_option linter.unusedSimpArgs false

attribute [local go_sem high] eqA77
set_option linter.unusedVariables false
set_option linter.unusedSimpArgs false
set_option maxRecDepth 100000
noncomputable section
theorem impl_HowMeet.go {k : Nat} {a0_0 : Int} {a0_1 : Int} {a0_2 : Int} {a0_3 : Int} {a1_0 : Int} {a1_1 : Int} {a1_2 : Int} {a1_3 : Int} {t} (h : impl_HowMeet.f k a0_0 a0_1 a0_2 a0_3 a1_0 a1_1 a1_2 a1_3 = some t) (K : Nat) (hK : k ≤ K) : impl_HowMeet.run K ((⟨(⟨a0_0, a0_1⟩ : S77), (⟨a0_2, a0_3⟩ : S77)⟩ : S95), (⟨(⟨a1_0, a1_1⟩ : S77), (⟨a1_2, a1_3⟩ : S77)⟩ : S95), ()) = some (impl_HowMeet.toH t) := by
  rw [impl_HowMeet.ef]
  (try dsimp only)
  unfold impl_HowMeet.f at h
  repeat' (with_reducible first
   | exact nos h
   | (cases some_inj h; exact impl_HowMeet.rt _)
   | ((have q : impl_HowMeet.j0 k _ _ _ _ _ _ _ _ _ = some _ := h; clear q); rcases k with _ | k <;> simp only [impl_HowMeet.j0, reduceCtorEq] at h)
   | ((have q : impl_HowMeet.j1 k _ _ _ _ _ _ _ _ _ _ _ = some _ := h; clear q); rcases k with _ | k <;> simp only [impl_HowMeet.j1, reduceCtorEq] at h)
   | ((have q : impl_HowMeet.j2 k _ _ _ _ _ _ _ _ = some _ := h; clear q); rcases k with _ | k <;> simp only [impl_HowMeet.j2, reduceCtorEq] at h)
   | ((have q : impl_HowMeet.j3 k _ _ _ _ = some _ := h; clear q); rcases k with _ | k <;> simp only [impl_HowMeet.j3, reduceCtorEq] at h)
   | ((have q : impl_HowMeet.j4 k _ _ _ _ _ _ _ _ _ = some _ := h; clear q); rcases k with _ | k <;> simp only [impl_HowMeet.j4, reduceCtorEq] at h)
   | (simp only [Option.bind_some] at h)
   | (refine ite_by h ?_ ?_ <;> (intro hc h; (try simp only [nrm] at hc)))
   | refine itT ?_
   | refine itF ?_
   | (refine bind_by h (fun t ht h => ?_); (first | refine (impl_IsSegment.ap_of (impl_IsSegment.go ht _)).trans ?_ | refine (impl_SideOf.ap_of (impl_SideOf.go ht _)).trans ?_ | refine (impl_forward.ap_of (impl_forward.go ht _)).trans ?_ | refine (impl_BeforePoint.ap_of (impl_BeforePoint.go ht _)).trans ?_ | refine (impl_IsOn.ap_of (impl_IsOn.go ht _)).trans ?_); (try dsimp only at h ⊢))
   | (simp only [nr2] at h ⊢)
   | (exfalso; omega))
def impl_IsRing.Fs : List (Spc env) := [impl_around.spec, impl_IsSegment.spec, impl_HowMeet.spec]
def impl_IsRing.fin : St eΓ → Option (HL eΓ [.b]) := finR env Try.f78.results.toList [.b]
def impl_IsRing.cut : Nat → Option (List (Lv SC)) := lk [(5, [⟨3, none, false⟩, ⟨18, none, false⟩, ⟨19, none, false⟩]), (10, [⟨3, none, false⟩, ⟨4, none, false⟩, ⟨18, none, false⟩, ⟨19, none, false⟩, ⟨28, none, false⟩, ⟨29, none, false⟩])]
def impl_IsRing.ret (r0 : Bool) : Option (HL eΓ [.b]) := some (r0, ())
def impl_IsRing.p5 (k : Nat) (x18 : Int) (x19 : Int) (x3 : List S95) : Option (HL eΓ [.b]) := evM env impl_IsRing.Fs Try.f78.ntmps impl_IsRing.fin impl_IsRing.cut k [.code (sub_ [1, 1, 1, 0, 1, 0, 0, 0] (bodyOf Try.f78)), .code (sub_ [1, 1, 1, 0, 1, 0, 0, 1] (bodyOf Try.f78)), .lp (sub_ [1, 1, 1, 0, 1, 0, 0] (bodyOf Try.f78)), .blk 0, .code (sub_ [1, 1, 1, 1] (bodyOf Try.f78))] (mkSt [(3, .c (.sl 0)), (18, .c (.v (.int .i64 x18))), (19, .c (.v (.int .i64 x19)))] [.row .own 95 (.st .s95) x3])
def impl_IsRing.p10 (k : Nat) (x4 : Int) (x18 : Int) (x19 : Int) (x28 : Int) (x29 : Int) (x3 : List S95) : Option (HL eΓ [.b]) := evM env impl_IsRing.Fs Try.f78.ntmps impl_IsRing.fin impl_IsRing.cut k [.code (sub_ [1, 1, 1, 0, 1, 0, 0, 1, 1, 0, 0, 1, 1, 1, 0, 0, 0] (bodyOf Try.f78)), .code (sub_ [1, 1, 1, 0, 1, 0, 0, 1, 1, 0, 0, 1, 1, 1, 0, 0, 1] (bodyOf Try.f78)), .lp (sub_ [1, 1, 1, 0, 1, 0, 0, 1, 1, 0, 0, 1, 1, 1, 0, 0] (bodyOf Try.f78)), .blk 2, .blk 1, .code (sub_ [1, 1, 1, 0, 1, 0, 0, 1, 1, 1] (bodyOf Try.f78)), .lp (sub_ [1, 1, 1, 0, 1, 0, 0] (bodyOf Try.f78)), .blk 0, .code (sub_ [1, 1, 1, 1] (bodyOf Try.f78))] (mkSt [(3, .c (.sl 0)), (4, .c (.v (.int .i64 x4))), (18, .c (.v (.int .i64 x18))), (19, .c (.v (.int .i64 x19))), (28, .c (.v (.int .i64 x28))), (29, .c (.v (.int .i64 x29)))] [.row .own 95 (.st .s95) x3])
theorem impl_IsRing.e5 (k : Nat) (x18 : Int) (x19 : Int) (x3 : List S95) : impl_IsRing.p5 (k + 1) x18 x19 x3 = if x19 < x18 then (if 0 ≤ x19 then (if x19 < (x3.length : Int) then (impl_IsSegment.ap k (⟨(⟨(rd_T95 x3 x19).f0.f0, (rd_T95 x3 x19).f0.f1⟩ : S77), (⟨(rd_T95 x3 x19).f1.f0, (rd_T95 x3 x19).f1.f1⟩ : S77)⟩ : S95) fun r1 => if (!r1) = true then (impl_IsRing.ret false) else (impl_IsRing.p10 k x19 x18 x19 x19 0 x3)) else none) else none) else (impl_IsRing.ret true) := by kernel_rfl
theorem impl_IsRing.e10 (k : Nat) (x4 : Int) (x18 : Int) (x19 : Int) (x28 : Int) (x29 : Int) (x3 : List S95) : impl_IsRing.p10 (k + 1) x4 x18 x19 x28 x29 x3 = if x29 < x28 then (if x29 = (wrap64 (x4 - 1)) then (if 0 ≤ x4 then (if x4 < (x3.length : Int) then (if 0 ≤ x29 then (if x29 < (x3.length : Int) then (impl_HowMeet.ap k (⟨(⟨(rd_T95 x3 x4).f0.f0, (rd_T95 x3 x4).f0.f1⟩ : S77), (⟨(rd_T95 x3 x4).f1.f0, (rd_T95 x3 x4).f1.f1⟩ : S77)⟩ : S95) (⟨(⟨(rd_T95 x3 x29).f0.f0, (rd_T95 x3 x29).f0.f1⟩ : S77), (⟨(rd_T95 x3 x29).f1.f0, (rd_T95 x3 x29).f1.f1⟩ : S77)⟩ : S95) fun r1 => if ¬ r1 = 1 then (impl_IsRing.ret false) else (impl_IsRing.p10 k x4 x18 x19 x28 (wrap64 (x29 + 1)) x3)) else none) else none) else none) else none) else (if x29 = 0 then (if x4 = (wrap64 ((x3.length : Int) - 1)) then (if 0 ≤ x4 then (if x4 < (x3.length : Int) then (if 0 ≤ x29 then (if x29 < (x3.length : Int) then (impl_HowMeet.ap k (⟨(⟨(rd_T95 x3 x4).f0.f0, (rd_T95 x3 x4).f0.f1⟩ : S77), (⟨(rd_T95 x3 x4).f1.f0, (rd_T95 x3 x4).f1.f1⟩ : S77)⟩ : S95) (⟨(⟨(rd_T95 x3 x29).f0.f0, (rd_T95 x3 x29).f0.f1⟩ : S77), (⟨(rd_T95 x3 x29).f1.f0, (rd_T95 x3 x29).f1.f1⟩ : S77)⟩ : S95) fun r2 => if ¬ r2 = 1 then (impl_IsRing.ret false) else (impl_IsRing.p10 k x4 x18 x19 x28 (wrap64 (x29 + 1)) x3)) else none) else none) else none) else none) else (if 0 ≤ x4 then (if x4 < (x3.length : Int) then (if 0 ≤ x29 then (if x29 < (x3.length : Int) then (impl_HowMeet.ap k (⟨(⟨(rd_T95 x3 x4).f0.f0, (rd_T95 x3 x4).f0.f1⟩ : S77), (⟨(rd_T95 x3 x4).f1.f0, (rd_T95 x3 x4).f1.f1⟩ : S77)⟩ : S95) (⟨(⟨(rd_T95 x3 x29).f0.f0, (rd_T95 x3 x29).f0.f1⟩ : S77), (⟨(rd_T95 x3 x29).f1.f0, (rd_T95 x3 x29).f1.f1⟩ : S77)⟩ : S95) fun r3 => if ¬ r3 = 0 then (impl_IsRing.ret false) else (impl_IsRing.p10 k x4 x18 x19 x28 (wrap64 (x29 + 1)) x3)) else none) else none) else none) else none)) else (if 0 ≤ x4 then (if x4 < (x3.length : Int) then (if 0 ≤ x29 then (if x29 < (x3.length : Int) then (impl_HowMeet.ap k (⟨(⟨(rd_T95 x3 x4).f0.f0, (rd_T95 x3 x4).f0.f1⟩ : S77), (⟨(rd_T95 x3 x4).f1.f0, (rd_T95 x3 x4).f1.f1⟩ : S77)⟩ : S95) (⟨(⟨(rd_T95 x3 x29).f0.f0, (rd_T95 x3 x29).f0.f1⟩ : S77), (⟨(rd_T95 x3 x29).f1.f0, (rd_T95 x3 x29).f1.f1⟩ : S77)⟩ : S95) fun r4 => if ¬ r4 = 0 then (impl_IsRing.ret false) else (impl_IsRing.p10 k x4 x18 x19 x28 (wrap64 (x29 + 1)) x3)) else none) else none) else none) else none))) else (impl_IsRing.p5 k x18 (wrap64 (x19 + 1)) x3) := by kernel_rfl
def impl_IsRing.run (k : Nat) (h : HL eΓ [.l 77 (.st .s77)]) : Option (HL eΓ [.b]) := evF env impl_IsRing.Fs Try.f78 impl_IsRing.cut [.l 77 (.st .s77)] [.b] k h
theorem impl_IsRing.ef (k : Nat) (h0 : List S77) : impl_IsRing.run k (h0, ()) = if (h0.length : Int) < 3 then (impl_IsRing.ret false) else (if (h0.length : Int) > 10 then (impl_IsRing.ret false) else (impl_around.ap k h0 fun r1 => impl_IsRing.p5 k (r1.length : Int) 0 r1)) := by kernel_rfl
def impl_IsRing.toH (t : Bool) : HL eΓ [.b] := (t, ())
def impl_IsRing.spec : Spc env := ⟨78, [.l 77 (.st .s77)], [.b], impl_IsRing.run⟩
def impl_IsRing.ap {R : Type} (k : Nat) (h0 : List S77) (K : Bool → Option R) : Option R := (impl_IsRing.run k (h0, ())).bind fun r => K (r.1 : Bool)
theorem impl_IsRing.ap_of {R : Type} {k : Nat} {h0 : List S77} {r0 : Bool} {K : Bool → Option R} (h : impl_IsRing.run k (h0, ()) = some (r0, ())) : impl_IsRing.ap k h0 K = K r0 := by unfold impl_IsRing.ap; rw [h]; rfl
theorem impl_IsRing.snd : Snd env impl_IsRing.spec := evF_snd env_ok (sndC impl_around.snd (sndC impl_IsSegment.snd (sndC impl_HowMeet.snd (sndN))))
attribute [local irreducible] impl_IsRing.run
theorem impl_IsRing.rt (a0 : Bool) : impl_IsRing.ret a0 = some (impl_IsRing.toH (a0)) := rfl
theorem impl_IsRing.br (n : Nat) : (∀ K, n ≤ K → ∀ (x18 : Int) (x19 : Int) (x3 : List S95) t, impl_IsRing.l0 n x3 x18 x19 = some t → impl_IsRing.p5 K x18 x19 x3 = some (impl_IsRing.toH t)) ∧ (∀ K, n ≤ K → ∀ (x4 : Int) (x18 : Int) (x19 : Int) (x28 : Int) (x29 : Int) (x3 : List S95) t, impl_IsRing.l1 n x3 x4 x18 x19 x28 x29 = some t → impl_IsRing.p10 K x4 x18 x19 x28 x29 x3 = some (impl_IsRing.toH t)) := by
  induction n using Nat.strongRecOn with
  | _ n ih =>
  refine ⟨fun K hK x18 x19 x3 t h => ?_, fun K hK x4 x18 x19 x28 x29 x3 t h => ?_⟩
  all_goals (rcases n with _ | k)
  all_goals (try (exact nos h))
  all_goals (obtain ⟨K, rfl⟩ : ∃ q, K = q + 1 := ⟨K - 1, by omega⟩)
  all_goals (first | rw [impl_IsRing.e5] | rw [impl_IsRing.e10])
  all_goals (simp only [impl_IsRing.l0, impl_IsRing.l1] at h)
  repeat' (with_reducible first
   | exact nos h
   | (cases some_inj h; exact impl_IsRing.rt _)
   | exact (ih _ (by omega)).1 _ (by omega) _ _ _ _ h
   | exact (ih _ (by omega)).2 _ (by omega) _ _ _ _ _ _ _ h
   | ((have q : impl_IsRing.j0 k _ _ = some _ := h; clear q); rcases k with _ | k <;> simp only [impl_IsRing.j0, reduceCtorEq] at h)
   | ((have q : impl_IsRing.j3 k _ _ _ _ _ _ _ _ _ = some _ := h; clear q); rcases k with _ | k <;> simp only [impl_IsRing.j3, reduceCtorEq] at h)
   | (simp only [Option.bind_some] at h)
   | (refine ite_by h ?_ ?_ <;> (intro hc h; (try simp only [nrm] at hc)))
   | refine itT ?_
   | refine itF ?_
   | (refine bind_by h (fun t ht h => ?_); (first | refine (impl_around.ap_of (impl_around.go ht _ (by omega))).trans ?_ | refine (impl_IsSegment.ap_of (impl_IsSegment.go ht _)).trans ?_ | refine (impl_HowMeet.ap_of (impl_HowMeet.go ht _ (by omega))).trans ?_); (try dsimp only at h ⊢))
   | (simp only [nr2] at h ⊢)
   | (exfalso; omega))
theorem impl_IsRing.go {k : Nat} {l0 : List S77} {t} (h : impl_IsRing.f k l0 = some t) (K : Nat) (hK : k ≤ K) : impl_IsRing.run K (l0, ()) = some (impl_IsRing.toH t) := by
  rw [impl_IsRing.ef]
  (try dsimp only)
  unfold impl_IsRing.f at h
  repeat' (with_reducible first
   | exact nos h
   | (cases some_inj h; exact impl_IsRing.rt _)
   | exact (impl_IsRing.br _).1 _ (by omega) _ _ _ _ h
   | exact (impl_IsRing.br _).2 _ (by omega) _ _ _ _ _ _ _ h
   | ((have q : impl_IsRing.j0 k _ _ = some _ := h; clear q); rcases k with _ | k <;> simp only [impl_IsRing.j0, reduceCtorEq] at h)
   | ((have q : impl_IsRing.j3 k _ _ _ _ _ _ _ _ _ = some _ := h; clear q); rcases k with _ | k <;> simp only [impl_IsRing.j3, reduceCtorEq] at h)
   | (simp only [Option.bind_some] at h)
   | (refine ite_by h ?_ ?_ <;> (intro hc h; (try simp only [nrm] at hc)))
   | refine itT ?_
   | refine itF ?_
   | (refine bind_by h (fun t ht h => ?_); (first | refine (impl_around.ap_of (impl_around.go ht _ (by omega))).trans ?_ | refine (impl_IsSegment.ap_of (impl_IsSegment.go ht _)).trans ?_ | refine (impl_HowMeet.ap_of (impl_HowMeet.go ht _ (by omega))).trans ?_); (try dsimp only at h ⊢))
   | (simp only [nr2] at h ⊢)
   | (exfalso; omega))
def impl_RingSegments.Fs : List (Spc env) := [impl_IsRing.spec, impl_around.spec]
def impl_RingSegments.cut : Nat → Option (List (Lv SC)) := lk []
def impl_RingSegments.ret (r0 : List S95) : Option (HL eΓ [.l 95 (.st .s95)]) := some (r0, ())
def impl_RingSegments.run (k : Nat) (h : HL eΓ [.l 77 (.st .s77)]) : Option (HL eΓ [.l 95 (.st .s95)]) := evF env impl_RingSegments.Fs Try.f109 impl_RingSegments.cut [.l 77 (.st .s77)] [.l 95 (.st .s95)] k h
theorem impl_RingSegments.ef (k : Nat) (h0 : List S77) : impl_RingSegments.run k (h0, ()) = impl_IsRing.ap k h0 fun r1 => if (!r1) = true then (impl_RingSegments.ret ([] : List S95)) else (impl_around.ap k h0 fun r2 => impl_RingSegments.ret r2) := by kernel_rfl
def impl_RingSegments.toH (t : (List (S95))) : HL eΓ [.l 95 (.st .s95)] := (t, ())
def impl_RingSegments.spec : Spc env := ⟨109, [.l 77 (.st .s77)], [.l 95 (.st .s95)], impl_RingSegments.run⟩
def impl_RingSegments.ap {R : Type} (k : Nat) (h0 : List S77) (K : (List S95) → Option R) : Option R := (impl_RingSegments.run k (h0, ())).bind fun r => K (r.1 : List S95)
theorem impl_RingSegments.ap_of {R : Type} {k : Nat} {h0 : List S77} {r0 : List S95} {K : (List S95) → Option R} (h : impl_RingSegments.run k (h0, ()) = some (r0, ())) : impl_RingSegments.ap k h0 K = K r0 := by unfold impl_RingSegments.ap; rw [h]; rfl
theorem impl_RingSegments.snd : Snd env impl_RingSegments.spec := evF_snd env_ok (sndC impl_IsRing.snd (sndC impl_around.snd (sndN)))
attribute [local irreducible] impl_RingSegments.run
theorem impl_RingSegments.rt (a0 : List S95) : impl_RingSegments.ret a0 = some (impl_RingSegments.toH (a0)) := rfl
theorem impl_RingSegments.go {k : Nat} {l0 : List S77} {t} (h : impl_RingSegments.f k l0 = some t) (K : Nat) (hK : k ≤ K) : impl_RingSegments.run K (l0, ()) = some (impl_RingSegments.toH t) := by
  rw [impl_RingSegments.ef]
  (try dsimp only)
  unfold impl_RingSegments.f at h
  repeat' (with_reducible first
   | exact nos h
   | (cases some_inj h; exact impl_RingSegments.rt _)
   | (simp only [Option.bind_some] at h)
   | (refine ite_by h ?_ ?_ <;> (intro hc h; (try simp only [nrm] at hc)))
   | refine itT ?_
   | refine itF ?_
   | (refine bind_by h (fun t ht h => ?_); (first | refine (impl_IsRing.ap_of (impl_IsRing.go ht _ (by omega))).trans ?_ | refine (impl_around.ap_of (impl_around.go ht _ (by omega))).trans ?_); (try dsimp only at h ⊢))
   | (simp only [nr2] at h ⊢)
   | (exfalso; omega))
def impl_TwiceArea.Fs : List (Spc env) := [impl_RingSegments.spec]
def impl_TwiceArea.fin : St eΓ → Option (HL eΓ [.i .i64]) := finR env Try.f80.results.toList [.i .i64]
def impl_TwiceArea.cut : Nat → Option (List (Lv SC)) := lk [(3, [⟨3, none, false⟩, ⟨7, none, false⟩, ⟨8, none, false⟩, ⟨9, none, false⟩])]
def impl_TwiceArea.ret (r0 : Int) : Option (HL eΓ [.i .i64]) := some (r0, ())
def impl_TwiceArea.p3 (k : Nat) (x3 : Int) (x8 : Int) (x9 : Int) (x7 : List S95) : Option (HL eΓ [.i .i64]) := evM env impl_TwiceArea.Fs Try.f80.ntmps impl_TwiceArea.fin impl_TwiceArea.cut k [.code (sub_ [1, 1, 0, 1, 0, 0, 0] (bodyOf Try.f80)), .code (sub_ [1, 1, 0, 1, 0, 0, 1] (bodyOf Try.f80)), .lp (sub_ [1, 1, 0, 1, 0, 0] (bodyOf Try.f80)), .blk 0, .code (sub_ [1, 1, 1] (bodyOf Try.f80))] (mkSt [(3, .c (.v (.int .i64 x3))), (7, .c (.sl 0)), (8, .c (.v (.int .i64 x8))), (9, .c (.v (.int .i64 x9)))] [.row .own 95 (.st .s95) x7])
theorem impl_TwiceArea.e3 (k : Nat) (x3 : Int) (x8 : Int) (x9 : Int) (x7 : List S95) : impl_TwiceArea.p3 (k + 1) x3 x8 x9 x7 = if x9 < x8 then (if 0 ≤ x9 then (if x9 < (x7.length : Int) then (impl_TwiceArea.p3 k (wrap64 (x3 + (wrap64 ((wrap64 (((rd_T95 x7 x9).f0.f0) * ((rd_T95 x7 x9).f1.f1))) - (wrap64 (((rd_T95 x7 x9).f0.f1) * ((rd_T95 x7 x9).f1.f0))))))) x8 (wrap64 (x9 + 1)) x7) else none) else none) else (impl_TwiceArea.ret x3) := by kernel_rfl
def impl_TwiceArea.run (k : Nat) (h : HL eΓ [.l 77 (.st .s77)]) : Option (HL eΓ [.i .i64]) := evF env impl_TwiceArea.Fs Try.f80 impl_TwiceArea.cut [.l 77 (.st .s77)] [.i .i64] k h
theorem impl_TwiceArea.ef (k : Nat) (h0 : List S77) : impl_TwiceArea.run k (h0, ()) = impl_RingSegments.ap k h0 fun r1 => impl_TwiceArea.p3 k 0 (r1.length : Int) 0 r1 := by kernel_rfl
def impl_TwiceArea.toH (t : Int) : HL eΓ [.i .i64] := (t, ())
def impl_TwiceArea.spec : Spc env := ⟨80, [.l 77 (.st .s77)], [.i .i64], impl_TwiceArea.run⟩
def impl_TwiceArea.ap {R : Type} (k : Nat) (h0 : List S77) (K : Int → Option R) : Option R := (impl_TwiceArea.run k (h0, ())).bind fun r => K (r.1 : Int)
theorem impl_TwiceArea.ap_of {R : Type} {k : Nat} {h0 : List S77} {r0 : Int} {K : Int → Option R} (h : impl_TwiceArea.run k (h0, ()) = some (r0, ())) : impl_TwiceArea.ap k h0 K = K r0 := by unfold impl_TwiceArea.ap; rw [h]; rfl
theorem impl_TwiceArea.snd : Snd env impl_TwiceArea.spec := evF_snd env_ok (sndC impl_RingSegments.snd (sndN))
attribute [local irreducible] impl_TwiceArea.run
theorem impl_TwiceArea.rt (a0 : Int) : impl_TwiceArea.ret a0 = some (impl_TwiceArea.toH (a0)) := rfl
theorem impl_TwiceArea.br (n : Nat) : (∀ K, n ≤ K → ∀ (x3 : Int) (x8 : Int) (x9 : Int) (x7 : List S95) t, impl_TwiceArea.l0 n x3 x7 x8 x9 = some t → impl_TwiceArea.p3 K x3 x8 x9 x7 = some (impl_TwiceArea.toH t)) := by
  induction n using Nat.strongRecOn with
  | _ n ih =>
  intro K hK x3 x8 x9 x7 t h
  all_goals (rcases n with _ | k)
  all_goals (try (exact nos h))
  all_goals (obtain ⟨K, rfl⟩ : ∃ q, K = q + 1 := ⟨K - 1, by omega⟩)
  all_goals (first | rw [impl_TwiceArea.e3])
  all_goals (simp only [impl_TwiceArea.l0] at h)
  repeat' (with_reducible first
   | exact nos h
   | (cases some_inj h; exact impl_TwiceArea.rt _)
   | exact (ih _ (by omega)) _ (by omega) _ _ _ _ _ h
   | (simp only [Option.bind_some] at h)
   | (refine ite_by h ?_ ?_ <;> (intro hc h; (try simp only [nrm] at hc)))
   | refine itT ?_
   | refine itF ?_
   | (refine bind_by h (fun t ht h => ?_); refine (impl_RingSegments.ap_of (impl_RingSegments.go ht _ (by omega))).trans ?_; (try dsimp only at h ⊢))
   | (simp only [nr2] at h ⊢)
   | (exfalso; omega))
theorem impl_TwiceArea.go {k : Nat} {l0 : List S77} {t} (h : impl_TwiceArea.f k l0 = some t) (K : Nat) (hK : k ≤ K) : impl_TwiceArea.run K (l0, ()) = some (impl_TwiceArea.toH t) := by
  rw [impl_TwiceArea.ef]
  (try dsimp only)
  unfold impl_TwiceArea.f at h
  repeat' (with_reducible first
   | exact nos h
   | (cases some_inj h; exact impl_TwiceArea.rt _)
   | exact (impl_TwiceArea.br _) _ (by omega) _ _ _ _ _ h
   | (simp only [Option.bind_some] at h)
   | (refine ite_by h ?_ ?_ <;> (intro hc h; (try simp only [nrm] at hc)))
   | refine itT ?_
   | refine itF ?_
   | (refine bind_by h (fun t ht h => ?_); refine (impl_RingSegments.ap_of (impl_RingSegments.go ht _ (by omega))).trans ?_; (try dsimp only at h ⊢))
   | (simp only [nr2] at h ⊢)
   | (exfalso; omega))
def impl_DropCorner.Fs : List (Spc env) := [impl_IsRing.spec, impl_Point.spec, impl_InRange.spec, impl_without.spec, impl_TwiceArea.spec, cmp_Compare_int.spec]
def impl_DropCorner.cut : Nat → Option (List (Lv SC)) := lk []
def impl_DropCorner.ret (r0 : List S77) (r1 : Bool) : Option (HL eΓ [.l 77 (.st .s77), .b]) := some (r0, r1, ())
def impl_DropCorner.run (k : Nat) (h : HL eΓ [.l 77 (.st .s77), .i .i64]) : Option (HL eΓ [.l 77 (.st .s77), .b]) := evF env impl_DropCorner.Fs Try.f44 impl_DropCorner.cut [.l 77 (.st .s77), .i .i64] [.l 77 (.st .s77), .b] k h
theorem impl_DropCorner.ef (k : Nat) (h0 : List S77) (h1 : Int) : impl_DropCorner.run k (h0, h1, ()) = impl_IsRing.ap k h0 fun r1 => if (!r1) = true then (impl_Point.ap k h0 fun r2 => impl_DropCorner.ret r2 false) else (impl_InRange.ap k h1 0 (wrap64 ((h0.length : Int) - 1)) fun r3 => if (!r3) = true then (impl_Point.ap k h0 fun r4 => impl_DropCorner.ret r4 false) else (impl_without.ap k h0 h1 fun r5 => impl_IsRing.ap k r5 fun r6 => if (!r6) = true then (impl_Point.ap k h0 fun r7 => impl_DropCorner.ret r7 false) else (impl_TwiceArea.ap k r5 fun r8 => cmp_Compare_int.ap k r8 0 fun r9 => impl_TwiceArea.ap k h0 fun r10 => cmp_Compare_int.ap k r10 0 fun r11 => if ¬ r9 = r11 then (impl_Point.ap k h0 fun r12 => impl_DropCorner.ret r12 false) else (impl_DropCorner.ret r5 true)))) := by kernel_rfl
def impl_DropCorner.toH (t : (List (S77)) × Bool) : HL eΓ [.l 77 (.st .s77), .b] := (t.1, t.2, ())
def impl_DropCorner.spec : Spc env := ⟨44, [.l 77 (.st .s77), .i .i64], [.l 77 (.st .s77), .b], impl_DropCorner.run⟩
def impl_DropCorner.ap {R : Type} (k : Nat) (h0 : List S77) (h1 : Int) (K : (List S77) → Bool → Option R) : Option R := (impl_DropCorner.run k (h0, h1, ())).bind fun r => K (r.1 : List S77) (r.2.1 : Bool)
theorem impl_DropCorner.ap_of {R : Type} {k : Nat} {h0 : List S77} {h1 : Int} {r0 : List S77} {r1 : Bool} {K : (List S77) → Bool → Option R} (h : impl_DropCorner.run k (h0, h1, ()) = some (r0, r1, ())) : impl_DropCorner.ap k h0 h1 K = K r0 r1 := by unfold impl_DropCorner.ap; rw [h]; rfl
theorem impl_DropCorner.snd : Snd env impl_DropCorner.spec := evF_snd env_ok (sndC impl_IsRing.snd (sndC impl_Point.snd (sndC impl_InRange.snd (sndC impl_without.snd (sndC impl_TwiceArea.snd (sndC cmp_Compare_int.snd (sndN)))))))
attribute [local irreducible] impl_DropCorner.run
theorem impl_DropCorner.rt (a0 : List S77) (a1 : Bool) : impl_DropCorner.ret a0 a1 = some (impl_DropCorner.toH (a0, a1)) := rfl
theorem impl_DropCorner.go {k : Nat} {l0 : List S77} {a1 : Int} {t} (h : impl_DropCorner.f k l0 a1 = some t) (K : Nat) (hK : k ≤ K) : impl_DropCorner.run K (l0, a1, ()) = some (impl_DropCorner.toH t) := by
  rw [impl_DropCorner.ef]
  (try dsimp only)
  unfold impl_DropCorner.f at h
  repeat' (with_reducible first
   | exact nos h
   | (cases some_inj h; exact impl_DropCorner.rt _ _)
   | ((have q : impl_DropCorner.j0 k _ _ _ = some _ := h; clear q); rcases k with _ | k <;> simp only [impl_DropCorner.j0, reduceCtorEq] at h)
   | (simp only [Option.bind_some] at h)
   | (refine ite_by h ?_ ?_ <;> (intro hc h; (try simp only [nrm] at hc)))
   | refine itT ?_
   | refine itF ?_
   | (refine bind_by h (fun t ht h => ?_); (first | refine (impl_IsRing.ap_of (impl_IsRing.go ht _ (by omega))).trans ?_ | refine (impl_Point.ap_of (impl_Point.go ht _)).trans ?_ | refine (impl_InRange.ap_of (impl_InRange.go ht _)).trans ?_ | refine (impl_without.ap_of (impl_without.go ht _)).trans ?_ | refine (impl_TwiceArea.ap_of (impl_TwiceArea.go ht _ (by omega))).trans ?_ | refine (cmp_Compare_int.ap_of (cmp_Compare_int.go ht _)).trans ?_); (try dsimp only at h ⊢))
   | (simp only [nr2] at h ⊢)
   | (exfalso; omega))
def impl_IsName.Fs : List (Spc env) := [impl_InRange.spec]
def impl_IsName.fin : St eΓ → Option (HL eΓ [.b]) := finR env Try.f81.results.toList [.b]
def impl_IsName.cut : Nat → Option (List (Lv SC)) := lk [(2, [⟨0, none, false⟩, ⟨5, none, false⟩, ⟨6, none, false⟩])]
def impl_IsName.ret (r0 : Bool) : Option (HL eΓ [.b]) := some (r0, ())
def impl_IsName.p2 (k : Nat) (x0 : ByteArray) (x5 : Int) (x6 : Int) : Option (HL eΓ [.b]) := evM env impl_IsName.Fs Try.f81.ntmps impl_IsName.fin impl_IsName.cut k [.code (sub_ [1, 0, 1, 0, 0, 0] (bodyOf Try.f81)), .code (sub_ [1, 0, 1, 0, 0, 1] (bodyOf Try.f81)), .lp (sub_ [1, 0, 1, 0, 0] (bodyOf Try.f81)), .blk 0, .code (sub_ [1, 1] (bodyOf Try.f81))] (mkSt [(0, .c (.v (.string x0))), (5, .c (.v (.int .i64 x5))), (6, .c (.v (.int .i64 x6)))] [])
theorem impl_IsName.e2 (k : Nat) (x0 : ByteArray) (x5 : Int) (x6 : Int) : impl_IsName.p2 (k + 1) x0 x5 x6 = if x6 < x5 then (if 0 ≤ x6 then (if x6 < (x0.size : Int) then (if (bt x0 x6) < 97 then (impl_IsName.ret false) else (if 0 ≤ x6 then (if x6 < (x0.size : Int) then (if (bt x0 x6) > 122 then (impl_IsName.ret false) else (impl_IsName.p2 k x0 x5 (wrap64 (x6 + 1)))) else none) else none)) else none) else none) else (impl_InRange.ap k (x0.size : Int) 1 8 fun r1 => impl_IsName.ret r1) := by kernel_rfl
def impl_IsName.run (k : Nat) (h : HL eΓ [.s]) : Option (HL eΓ [.b]) := evF env impl_IsName.Fs Try.f81 impl_IsName.cut [.s] [.b] k h
theorem impl_IsName.ef (k : Nat) (h0 : ByteArray) : impl_IsName.run k (h0, ()) = impl_IsName.p2 k h0 (h0.size : Int) 0 := by kernel_rfl
def impl_IsName.toH (t : Bool) : HL eΓ [.b] := (t, ())
def impl_IsName.spec : Spc env := ⟨81, [.s], [.b], impl_IsName.run⟩
def impl_IsName.ap {R : Type} (k : Nat) (h0 : ByteArray) (K : Bool → Option R) : Option R := (impl_IsName.run k (h0, ())).bind fun r => K (r.1 : Bool)
theorem impl_IsName.ap_of {R : Type} {k : Nat} {h0 : ByteArray} {r0 : Bool} {K : Bool → Option R} (h : impl_IsName.run k (h0, ()) = some (r0, ())) : impl_IsName.ap k h0 K = K r0 := by unfold impl_IsName.ap; rw [h]; rfl
theorem impl_IsName.snd : Snd env impl_IsName.spec := evF_snd env_ok (sndC impl_InRange.snd (sndN))
attribute [local irreducible] impl_IsName.run
theorem impl_IsName.rt (a0 : Bool) : impl_IsName.ret a0 = some (impl_IsName.toH (a0)) := rfl
theorem impl_IsName.br (n : Nat) : (∀ K, n ≤ K → ∀ (x0 : ByteArray) (x5 : Int) (x6 : Int) t, impl_IsName.l0 n x0 x5 x6 = some t → impl_IsName.p2 K x0 x5 x6 = some (impl_IsName.toH t)) := by
  induction n using Nat.strongRecOn with
  | _ n ih =>
  intro K hK x0 x5 x6 t h
  all_goals (rcases n with _ | k)
  all_goals (try (exact nos h))
  all_goals (obtain ⟨K, rfl⟩ : ∃ q, K = q + 1 := ⟨K - 1, by omega⟩)
  all_goals (first | rw [impl_IsName.e2])
  all_goals (simp only [impl_IsName.l0] at h)
  repeat' (with_reducible first
   | exact nos h
   | (cases some_inj h; exact impl_IsName.rt _)
   | exact (ih _ (by omega)) _ (by omega) _ _ _ _ h
   | (simp only [Option.bind_some] at h)
   | (refine ite_by h ?_ ?_ <;> (intro hc h; (try simp only [nrm] at hc)))
   | refine itT ?_
   | refine itF ?_
   | (refine bind_by h (fun t ht h => ?_); refine (impl_InRange.ap_of (impl_InRange.go ht _)).trans ?_; (try dsimp only at h ⊢))
   | (simp only [nr2] at h ⊢)
   | (exfalso; omega))
theorem impl_IsName.go {k : Nat} {a0 : ByteArray} {t} (h : impl_IsName.f k a0 = some t) (K : Nat) (hK : k ≤ K) : impl_IsName.run K (a0, ()) = some (impl_IsName.toH t) := by
  rw [impl_IsName.ef]
  (try dsimp only)
  unfold impl_IsName.f at h
  repeat' (with_reducible first
   | exact nos h
   | (cases some_inj h; exact impl_IsName.rt _)
   | exact (impl_IsName.br _) _ (by omega) _ _ _ _ h
   | (simp only [Option.bind_some] at h)
   | (refine ite_by h ?_ ?_ <;> (intro hc h; (try simp only [nrm] at hc)))
   | refine itT ?_
   | refine itF ?_
   | (refine bind_by h (fun t ht h => ?_); refine (impl_InRange.ap_of (impl_InRange.go ht _)).trans ?_; (try dsimp only at h ⊢))
   | (simp only [nr2] at h ⊢)
   | (exfalso; omega))
def impl_SegmentsOf.Fs : List (Spc env) := [impl_IsLine.spec]
def impl_SegmentsOf.fin : St eΓ → Option (HL eΓ [.l 95 (.st .s95)]) := finR env Try.f110.results.toList [.l 95 (.st .s95)]
def impl_SegmentsOf.cut : Nat → Option (List (Lv SC)) := lk [(5, [⟨0, none, false⟩, ⟨3, none, false⟩, ⟨4, none, false⟩])]
def impl_SegmentsOf.ret (r0 : List S95) : Option (HL eΓ [.l 95 (.st .s95)]) := some (r0, ())
def impl_SegmentsOf.p5 (k : Nat) (x4 : Int) (x0 : List S77) (x3 : List S95) : Option (HL eΓ [.l 95 (.st .s95)]) := evM env impl_SegmentsOf.Fs Try.f110.ntmps impl_SegmentsOf.fin impl_SegmentsOf.cut k [.code (sub_ [1, 1, 1, 0, 1, 0, 0, 0, 0] (bodyOf Try.f110)), .code (sub_ [1, 1, 1, 0, 1, 0, 0, 0, 1] (bodyOf Try.f110)), .code (sub_ [1, 1, 1, 0, 1, 0, 0, 1] (bodyOf Try.f110)), .lp (sub_ [1, 1, 1, 0, 1, 0, 0] (bodyOf Try.f110)), .blk 0, .code (sub_ [1, 1, 1, 1] (bodyOf Try.f110))] (mkSt [(0, .c (.sl 0)), (3, .c (.sl 1)), (4, .c (.v (.int .i64 x4)))] [.row .ro 77 (.st .s77) x0, .row .own 95 (.st .s95) x3])
theorem impl_SegmentsOf.e5 (k : Nat) (x4 : Int) (x0 : List S77) (x3 : List S95) : impl_SegmentsOf.p5 (k + 1) x4 x0 x3 = if x4 < (x0.length : Int) then (if 0 ≤ (wrap64 (x4 - 1)) then (if (wrap64 (x4 - 1)) < (x0.length : Int) then (if 0 ≤ x4 then (if x4 < (x0.length : Int) then (if (x3.length + 1) * 32 ≤ 140737488355328 then (impl_SegmentsOf.p5 k (wrap64 (x4 + 1)) x0 (x3 ++ [(⟨(⟨(rd_T77 x0 (wrap64 (x4 - 1))).f0, (rd_T77 x0 (wrap64 (x4 - 1))).f1⟩ : S77), (⟨(rd_T77 x0 x4).f0, (rd_T77 x0 x4).f1⟩ : S77)⟩ : S95)])) else none) else none) else none) else none) else none) else (impl_SegmentsOf.ret x3) := by kernel_rfl
def impl_SegmentsOf.run (k : Nat) (h : HL eΓ [.l 77 (.st .s77)]) : Option (HL eΓ [.l 95 (.st .s95)]) := evF env impl_SegmentsOf.Fs Try.f110 impl_SegmentsOf.cut [.l 77 (.st .s77)] [.l 95 (.st .s95)] k h
theorem impl_SegmentsOf.ef (k : Nat) (h0 : List S77) : impl_SegmentsOf.run k (h0, ()) = impl_IsLine.ap k h0 fun r1 => if (!r1) = true then (impl_SegmentsOf.ret ([] : List S95)) else (impl_SegmentsOf.p5 k 1 h0 ([] : List S95)) := by kernel_rfl
def impl_SegmentsOf.toH (t : (List (S95))) : HL eΓ [.l 95 (.st .s95)] := (t, ())
def impl_SegmentsOf.spec : Spc env := ⟨110, [.l 77 (.st .s77)], [.l 95 (.st .s95)], impl_SegmentsOf.run⟩
def impl_SegmentsOf.ap {R : Type} (k : Nat) (h0 : List S77) (K : (List S95) → Option R) : Option R := (impl_SegmentsOf.run k (h0, ())).bind fun r => K (r.1 : List S95)
theorem impl_SegmentsOf.ap_of {R : Type} {k : Nat} {h0 : List S77} {r0 : List S95} {K : (List S95) → Option R} (h : impl_SegmentsOf.run k (h0, ()) = some (r0, ())) : impl_SegmentsOf.ap k h0 K = K r0 := by unfold impl_SegmentsOf.ap; rw [h]; rfl
theorem impl_SegmentsOf.snd : Snd env impl_SegmentsOf.spec := evF_snd env_ok (sndC impl_IsLine.snd (sndN))
attribute [local irreducible] impl_SegmentsOf.run
theorem impl_SegmentsOf.rt (a0 : List S95) : impl_SegmentsOf.ret a0 = some (impl_SegmentsOf.toH (a0)) := rfl
theorem impl_SegmentsOf.br (n : Nat) : (∀ K, n ≤ K → ∀ (x4 : Int) (x0 : List S77) (x3 : List S95) t, impl_SegmentsOf.l0 n x0 x3 x4 = some t → impl_SegmentsOf.p5 K x4 x0 x3 = some (impl_SegmentsOf.toH t)) := by
  induction n using Nat.strongRecOn with
  | _ n ih =>
  intro K hK x4 x0 x3 t h
  all_goals (rcases n with _ | k)
  all_goals (try (exact nos h))
  all_goals (obtain ⟨K, rfl⟩ : ∃ q, K = q + 1 := ⟨K - 1, by omega⟩)
  all_goals (first | rw [impl_SegmentsOf.e5])
  all_goals (simp only [impl_SegmentsOf.l0] at h)
  repeat' (with_reducible first
   | exact nos h
   | (cases some_inj h; exact impl_SegmentsOf.rt _)
   | exact (ih _ (by omega)) _ (by omega) _ _ _ _ h
   | (simp only [Option.bind_some] at h)
   | (refine ite_by h ?_ ?_ <;> (intro hc h; (try simp only [nrm] at hc)))
   | refine itT ?_
   | refine itF ?_
   | (refine bind_by h (fun t ht h => ?_); refine (impl_IsLine.ap_of (impl_IsLine.go ht _ (by omega))).trans ?_; (try dsimp only at h ⊢))
   | (simp only [nr2] at h ⊢)
   | (exfalso; omega))
theorem impl_SegmentsOf.go {k : Nat} {l0 : List S77} {t} (h : impl_SegmentsOf.f k l0 = some t) (K : Nat) (hK : k ≤ K) : impl_SegmentsOf.run K (l0, ()) = some (impl_SegmentsOf.toH t) := by
  rw [impl_SegmentsOf.ef]
  (try dsimp only)
  unfold impl_SegmentsOf.f at h
  repeat' (with_reducible first
   | exact nos h
   | (cases some_inj h; exact impl_SegmentsOf.rt _)
   | exact (impl_SegmentsOf.br _) _ (by omega) _ _ _ _ h
   | (simp only [Option.bind_some] at h)
   | (refine ite_by h ?_ ?_ <;> (intro hc h; (try simp only [nrm] at hc)))
   | refine itT ?_
   | refine itF ?_
   | (refine bind_by h (fun t ht h => ?_); refine (impl_IsLine.ap_of (impl_IsLine.go ht _ (by omega))).trans ?_; (try dsimp only at h ⊢))
   | (simp only [nr2] at h ⊢)
   | (exfalso; omega))
def impl_IsSimple.Fs : List (Spc env) := [impl_IsLine.spec, impl_SegmentsOf.spec, impl_HowMeet.spec]
def impl_IsSimple.fin : St eΓ → Option (HL eΓ [.b]) := finR env Try.f83.results.toList [.b]
def impl_IsSimple.cut : Nat → Option (List (Lv SC)) := lk [(5, [⟨3, none, false⟩, ⟨13, none, false⟩, ⟨14, none, false⟩]), (8, [⟨3, none, false⟩, ⟨4, none, false⟩, ⟨13, none, false⟩, ⟨14, none, false⟩, ⟨17, none, false⟩, ⟨18, none, false⟩])]
def impl_IsSimple.ret (r0 : Bool) : Option (HL eΓ [.b]) := some (r0, ())
def impl_IsSimple.p5 (k : Nat) (x13 : Int) (x14 : Int) (x3 : List S95) : Option (HL eΓ [.b]) := evM env impl_IsSimple.Fs Try.f83.ntmps impl_IsSimple.fin impl_IsSimple.cut k [.code (sub_ [1, 1, 1, 0, 1, 0, 0, 0] (bodyOf Try.f83)), .code (sub_ [1, 1, 1, 0, 1, 0, 0, 1] (bodyOf Try.f83)), .lp (sub_ [1, 1, 1, 0, 1, 0, 0] (bodyOf Try.f83)), .blk 0, .code (sub_ [1, 1, 1, 1] (bodyOf Try.f83))] (mkSt [(3, .c (.sl 0)), (13, .c (.v (.int .i64 x13))), (14, .c (.v (.int .i64 x14)))] [.row .own 95 (.st .s95) x3])
def impl_IsSimple.p8 (k : Nat) (x4 : Int) (x13 : Int) (x14 : Int) (x17 : Int) (x18 : Int) (x3 : List S95) : Option (HL eΓ [.b]) := evM env impl_IsSimple.Fs Try.f83.ntmps impl_IsSimple.fin impl_IsSimple.cut k [.code (sub_ [1, 1, 1, 0, 1, 0, 0, 1, 1, 0, 0, 1, 1, 0, 0, 0] (bodyOf Try.f83)), .code (sub_ [1, 1, 1, 0, 1, 0, 0, 1, 1, 0, 0, 1, 1, 0, 0, 1] (bodyOf Try.f83)), .lp (sub_ [1, 1, 1, 0, 1, 0, 0, 1, 1, 0, 0, 1, 1, 0, 0] (bodyOf Try.f83)), .blk 2, .blk 1, .code (sub_ [1, 1, 1, 0, 1, 0, 0, 1, 1, 1] (bodyOf Try.f83)), .lp (sub_ [1, 1, 1, 0, 1, 0, 0] (bodyOf Try.f83)), .blk 0, .code (sub_ [1, 1, 1, 1] (bodyOf Try.f83))] (mkSt [(3, .c (.sl 0)), (4, .c (.v (.int .i64 x4))), (13, .c (.v (.int .i64 x13))), (14, .c (.v (.int .i64 x14))), (17, .c (.v (.int .i64 x17))), (18, .c (.v (.int .i64 x18)))] [.row .own 95 (.st .s95) x3])
theorem impl_IsSimple.e5 (k : Nat) (x13 : Int) (x14 : Int) (x3 : List S95) : impl_IsSimple.p5 (k + 1) x13 x14 x3 = if x14 < x13 then (impl_IsSimple.p8 k x14 x13 x14 x14 0 x3) else (impl_IsSimple.ret true) := by kernel_rfl
theorem impl_IsSimple.e8 (k : Nat) (x4 : Int) (x13 : Int) (x14 : Int) (x17 : Int) (x18 : Int) (x3 : List S95) : impl_IsSimple.p8 (k + 1) x4 x13 x14 x17 x18 x3 = if x18 < x17 then (if x18 = (wrap64 (x4 - 1)) then (if 0 ≤ x4 then (if x4 < (x3.length : Int) then (if 0 ≤ x18 then (if x18 < (x3.length : Int) then (impl_HowMeet.ap k (⟨(⟨(rd_T95 x3 x4).f0.f0, (rd_T95 x3 x4).f0.f1⟩ : S77), (⟨(rd_T95 x3 x4).f1.f0, (rd_T95 x3 x4).f1.f1⟩ : S77)⟩ : S95) (⟨(⟨(rd_T95 x3 x18).f0.f0, (rd_T95 x3 x18).f0.f1⟩ : S77), (⟨(rd_T95 x3 x18).f1.f0, (rd_T95 x3 x18).f1.f1⟩ : S77)⟩ : S95) fun r1 => if ¬ r1 = 1 then (impl_IsSimple.ret false) else (impl_IsSimple.p8 k x4 x13 x14 x17 (wrap64 (x18 + 1)) x3)) else none) else none) else none) else none) else (if 0 ≤ x4 then (if x4 < (x3.length : Int) then (if 0 ≤ x18 then (if x18 < (x3.length : Int) then (impl_HowMeet.ap k (⟨(⟨(rd_T95 x3 x4).f0.f0, (rd_T95 x3 x4).f0.f1⟩ : S77), (⟨(rd_T95 x3 x4).f1.f0, (rd_T95 x3 x4).f1.f1⟩ : S77)⟩ : S95) (⟨(⟨(rd_T95 x3 x18).f0.f0, (rd_T95 x3 x18).f0.f1⟩ : S77), (⟨(rd_T95 x3 x18).f1.f0, (rd_T95 x3 x18).f1.f1⟩ : S77)⟩ : S95) fun r2 => if ¬ r2 = 0 then (impl_IsSimple.ret false) else (impl_IsSimple.p8 k x4 x13 x14 x17 (wrap64 (x18 + 1)) x3)) else none) else none) else none) else none)) else (impl_IsSimple.p5 k x13 (wrap64 (x14 + 1)) x3) := by kernel_rfl
def impl_IsSimple.run (k : Nat) (h : HL eΓ [.l 77 (.st .s77)]) : Option (HL eΓ [.b]) := evF env impl_IsSimple.Fs Try.f83 impl_IsSimple.cut [.l 77 (.st .s77)] [.b] k h
theorem impl_IsSimple.ef (k : Nat) (h0 : List S77) : impl_IsSimple.run k (h0, ()) = impl_IsLine.ap k h0 fun r1 => if (!r1) = true then (impl_IsSimple.ret false) else (impl_SegmentsOf.ap k h0 fun r2 => impl_IsSimple.p5 k (r2.length : Int) 0 r2) := by kernel_rfl
def impl_IsSimple.toH (t : Bool) : HL eΓ [.b] := (t, ())
def impl_IsSimple.spec : Spc env := ⟨83, [.l 77 (.st .s77)], [.b], impl_IsSimple.run⟩
def impl_IsSimple.ap {R : Type} (k : Nat) (h0 : List S77) (K : Bool → Option R) : Option R := (impl_IsSimple.run k (h0, ())).bind fun r => K (r.1 : Bool)
theorem impl_IsSimple.ap_of {R : Type} {k : Nat} {h0 : List S77} {r0 : Bool} {K : Bool → Option R} (h : impl_IsSimple.run k (h0, ()) = some (r0, ())) : impl_IsSimple.ap k h0 K = K r0 := by unfold impl_IsSimple.ap; rw [h]; rfl
theorem impl_IsSimple.snd : Snd env impl_IsSimple.spec := evF_snd env_ok (sndC impl_IsLine.snd (sndC impl_SegmentsOf.snd (sndC impl_HowMeet.snd (sndN))))
attribute [local irreducible] impl_IsSimple.run
theorem impl_IsSimple.rt (a0 : Bool) : impl_IsSimple.ret a0 = some (impl_IsSimple.toH (a0)) := rfl
theorem impl_IsSimple.br (n : Nat) : (∀ K, n ≤ K → ∀ (x13 : Int) (x14 : Int) (x3 : List S95) t, impl_IsSimple.l0 n x3 x13 x14 = some t → impl_IsSimple.p5 K x13 x14 x3 = some (impl_IsSimple.toH t)) ∧ (∀ K, n ≤ K → ∀ (x4 : Int) (x13 : Int) (x14 : Int) (x17 : Int) (x18 : Int) (x3 : List S95) t, impl_IsSimple.l1 n x3 x4 x13 x14 x17 x18 = some t → impl_IsSimple.p8 K x4 x13 x14 x17 x18 x3 = some (impl_IsSimple.toH t)) := by
  induction n using Nat.strongRecOn with
  | _ n ih =>
  refine ⟨fun K hK x13 x14 x3 t h => ?_, fun K hK x4 x13 x14 x17 x18 x3 t h => ?_⟩
  all_goals (rcases n with _ | k)
  all_goals (try (exact nos h))
  all_goals (obtain ⟨K, rfl⟩ : ∃ q, K = q + 1 := ⟨K - 1, by omega⟩)
  all_goals (first | rw [impl_IsSimple.e5] | rw [impl_IsSimple.e8])
  all_goals (simp only [impl_IsSimple.l0, impl_IsSimple.l1] at h)
  repeat' (with_reducible first
   | exact nos h
   | (cases some_inj h; exact impl_IsSimple.rt _)
   | exact (ih _ (by omega)).1 _ (by omega) _ _ _ _ h
   | exact (ih _ (by omega)).2 _ (by omega) _ _ _ _ _ _ _ h
   | (simp only [Option.bind_some] at h)
   | (refine ite_by h ?_ ?_ <;> (intro hc h; (try simp only [nrm] at hc)))
   | refine itT ?_
   | refine itF ?_
   | (refine bind_by h (fun t ht h => ?_); (first | refine (impl_IsLine.ap_of (impl_IsLine.go ht _ (by omega))).trans ?_ | refine (impl_SegmentsOf.ap_of (impl_SegmentsOf.go ht _ (by omega))).trans ?_ | refine (impl_HowMeet.ap_of (impl_HowMeet.go ht _ (by omega))).trans ?_); (try dsimp only at h ⊢))
   | (simp only [nr2] at h ⊢)
   | (exfalso; omega))
theorem impl_IsSimple.go {k : Nat} {l0 : List S77} {t} (h : impl_IsSimple.f k l0 = some t) (K : Nat) (hK : k ≤ K) : impl_IsSimple.run K (l0, ()) = some (impl_IsSimple.toH t) := by
  rw [impl_IsSimple.ef]
  (try dsimp only)
  unfold impl_IsSimple.f at h
  repeat' (with_reducible first
   | exact nos h
   | (cases some_inj h; exact impl_IsSimple.rt _)
   | exact (impl_IsSimple.br _).1 _ (by omega) _ _ _ _ h
   | exact (impl_IsSimple.br _).2 _ (by omega) _ _ _ _ _ _ _ h
   | (simp only [Option.bind_some] at h)
   | (refine ite_by h ?_ ?_ <;> (intro hc h; (try simp only [nrm] at hc)))
   | refine itT ?_
   | refine itF ?_
   | (refine bind_by h (fun t ht h => ?_); (first | refine (impl_IsLine.ap_of (impl_IsLine.go ht _ (by omega))).trans ?_ | refine (impl_SegmentsOf.ap_of (impl_SegmentsOf.go ht _ (by omega))).trans ?_ | refine (impl_HowMeet.ap_of (impl_HowMeet.go ht _ (by omega))).trans ?_); (try dsimp only at h ⊢))
   | (simp only [nr2] at h ⊢)
   | (exfalso; omega))
def impl_IsFeature.Fs : List (Spc env) := [impl_InRange.spec, impl_IsName.spec, impl_IsPoint.spec, impl_IsSimple.spec, impl_IsRing.spec]
def impl_IsFeature.cut : Nat → Option (List (Lv SC)) := lk []
def impl_IsFeature.ret (r0 : Bool) : Option (HL eΓ [.b]) := some (r0, ())
def impl_IsFeature.run (k : Nat) (h : HL eΓ [.st .s28]) : Option (HL eΓ [.b]) := evF env impl_IsFeature.Fs Try.f45 impl_IsFeature.cut [.st .s28] [.b] k h
theorem impl_IsFeature.ef (k : Nat) (h0 : S28) : impl_IsFeature.run k (h0, ()) = impl_InRange.ap k h0.f0 1 99 fun r1 => if (!r1) = true then (impl_IsFeature.ret false) else (impl_InRange.ap k h0.f2 0 9 fun r2 => if (!r2) = true then (impl_IsFeature.ret false) else (if ¬ h0.f3.toList = [] then (impl_IsName.ap k h0.f3 fun r3 => if (!r3) = true then (impl_IsFeature.ret false) else (if h0.f1 = 1 then (if (h0.f4.length : Int) = 1 then (if 0 < (h0.f4.length : Int) then (impl_IsPoint.ap k (⟨(rd_T77 h0.f4 0).f0, (rd_T77 h0.f4 0).f1⟩ : S77) fun r4 => impl_IsFeature.ret r4) else none) else (impl_IsFeature.ret false)) else (if h0.f1 = 2 then (impl_IsSimple.ap k h0.f4 fun r5 => impl_IsFeature.ret r5) else (if h0.f1 = 3 then (impl_IsRing.ap k h0.f4 fun r6 => impl_IsFeature.ret r6) else (impl_IsFeature.ret false))))) else (if h0.f1 = 1 then (if (h0.f4.length : Int) = 1 then (if 0 < (h0.f4.length : Int) then (impl_IsPoint.ap k (⟨(rd_T77 h0.f4 0).f0, (rd_T77 h0.f4 0).f1⟩ : S77) fun r7 => impl_IsFeature.ret r7) else none) else (impl_IsFeature.ret false)) else (if h0.f1 = 2 then (impl_IsSimple.ap k h0.f4 fun r8 => impl_IsFeature.ret r8) else (if h0.f1 = 3 then (impl_IsRing.ap k h0.f4 fun r9 => impl_IsFeature.ret r9) else (impl_IsFeature.ret false)))))) := by kernel_rfl
def impl_IsFeature.toH (t : Bool) : HL eΓ [.b] := (t, ())
def impl_IsFeature.spec : Spc env := ⟨45, [.st .s28], [.b], impl_IsFeature.run⟩
def impl_IsFeature.ap {R : Type} (k : Nat) (h0 : S28) (K : Bool → Option R) : Option R := (impl_IsFeature.run k (h0, ())).bind fun r => K (r.1 : Bool)
theorem impl_IsFeature.ap_of {R : Type} {k : Nat} {h0 : S28} {r0 : Bool} {K : Bool → Option R} (h : impl_IsFeature.run k (h0, ()) = some (r0, ())) : impl_IsFeature.ap k h0 K = K r0 := by unfold impl_IsFeature.ap; rw [h]; rfl
theorem impl_IsFeature.snd : Snd env impl_IsFeature.spec := evF_snd env_ok (sndC impl_InRange.snd (sndC impl_IsName.snd (sndC impl_IsPoint.snd (sndC impl_IsSimple.snd (sndC impl_IsRing.snd (sndN))))))
attribute [local irreducible] impl_IsFeature.run
theorem impl_IsFeature.rt (a0 : Bool) : impl_IsFeature.ret a0 = some (impl_IsFeature.toH (a0)) := rfl
theorem impl_IsFeature.go {k : Nat} {a0_0 : Int} {a0_1 : Int} {a0_2 : Int} {a0_3 : ByteArray} {l0_4 : List S77} {t} (h : impl_IsFeature.f k a0_0 a0_1 a0_2 a0_3 l0_4 = some t) (K : Nat) (hK : k ≤ K) : impl_IsFeature.run K ((⟨a0_0, a0_1, a0_2, a0_3, l0_4⟩ : S28), ()) = some (impl_IsFeature.toH t) := by
  rw [impl_IsFeature.ef]
  (try dsimp only)
  unfold impl_IsFeature.f at h
  repeat' (with_reducible first
   | exact nos h
   | (cases some_inj h; exact impl_IsFeature.rt _)
   | ((have q : impl_IsFeature.j0 k _ _ _ _ _ _ = some _ := h; clear q); rcases k with _ | k <;> simp only [impl_IsFeature.j0, reduceCtorEq] at h)
   | (simp only [Option.bind_some] at h)
   | (refine ite_by h ?_ ?_ <;> (intro hc h; (try simp only [nrm] at hc)))
   | refine itT ?_
   | refine itF ?_
   | (refine bind_by h (fun t ht h => ?_); (first | refine (impl_InRange.ap_of (impl_InRange.go ht _)).trans ?_ | refine (impl_IsName.ap_of (impl_IsName.go ht _ (by omega))).trans ?_ | refine (impl_IsPoint.ap_of (impl_IsPoint.go ht _)).trans ?_ | refine (impl_IsSimple.ap_of (impl_IsSimple.go ht _ (by omega))).trans ?_ | refine (impl_IsRing.ap_of (impl_IsRing.go ht _ (by omega))).trans ?_); (try dsimp only at h ⊢))
   | (simp only [nr2] at h ⊢)
   | (exfalso; omega))
def impl_DropFrom.Fs : List (Spc env) := [impl_cloneFeature.spec, impl_DropPoint.spec, impl_IsFeature.spec, impl_DropCorner.spec]
def impl_DropFrom.cut : Nat → Option (List (Lv SC)) := lk []
def impl_DropFrom.ret (r0 : S28) (r1 : Bool) : Option (HL eΓ [.st .s28, .b]) := some (r0, r1, ())
def impl_DropFrom.run (k : Nat) (h : HL eΓ [.st .s28, .i .i64]) : Option (HL eΓ [.st .s28, .b]) := evF env impl_DropFrom.Fs Try.f11 impl_DropFrom.cut [.st .s28, .i .i64] [.st .s28, .b] k h
theorem impl_DropFrom.ef (k : Nat) (h0 : S28) (h1 : Int) : impl_DropFrom.run k (h0, h1, ()) = impl_cloneFeature.ap k (⟨h0.f0, h0.f1, h0.f2, h0.f3, h0.f4⟩ : S28) fun r1 => if h0.f1 = 2 then (impl_DropPoint.ap k h0.f4 h1 fun r2_0 r2_1 => if (!r2_1) = true then (impl_cloneFeature.ap k (⟨h0.f0, h0.f1, h0.f2, h0.f3, h0.f4⟩ : S28) fun r3 => impl_DropFrom.ret (⟨r3.f0, r3.f1, r3.f2, r3.f3, r3.f4⟩ : S28) false) else (impl_IsFeature.ap k (⟨r1.f0, r1.f1, r1.f2, r1.f3, r2_0⟩ : S28) fun r4 => if (!r4) = true then (impl_cloneFeature.ap k (⟨h0.f0, h0.f1, h0.f2, h0.f3, h0.f4⟩ : S28) fun r5 => impl_DropFrom.ret (⟨r5.f0, r5.f1, r5.f2, r5.f3, r5.f4⟩ : S28) false) else (impl_DropFrom.ret (⟨r1.f0, r1.f1, r1.f2, r1.f3, r2_0⟩ : S28) true))) else (if h0.f1 = 3 then (impl_DropCorner.ap k h0.f4 h1 fun r6_0 r6_1 => if (!r6_1) = true then (impl_cloneFeature.ap k (⟨h0.f0, h0.f1, h0.f2, h0.f3, h0.f4⟩ : S28) fun r7 => impl_DropFrom.ret (⟨r7.f0, r7.f1, r7.f2, r7.f3, r7.f4⟩ : S28) false) else (impl_IsFeature.ap k (⟨r1.f0, r1.f1, r1.f2, r1.f3, r6_0⟩ : S28) fun r8 => if (!r8) = true then (impl_cloneFeature.ap k (⟨h0.f0, h0.f1, h0.f2, h0.f3, h0.f4⟩ : S28) fun r9 => impl_DropFrom.ret (⟨r9.f0, r9.f1, r9.f2, r9.f3, r9.f4⟩ : S28) false) else (impl_DropFrom.ret (⟨r1.f0, r1.f1, r1.f2, r1.f3, r6_0⟩ : S28) true))) else (impl_cloneFeature.ap k (⟨h0.f0, h0.f1, h0.f2, h0.f3, h0.f4⟩ : S28) fun r10 => impl_DropFrom.ret (⟨r10.f0, r10.f1, r10.f2, r10.f3, r10.f4⟩ : S28) false)) := by kernel_rfl
def impl_DropFrom.toH (t : Int × Int × Int × ByteArray × (List (S77)) × Bool) : HL eΓ [.st .s28, .b] := ((⟨t.1, t.2.1, t.2.2.1, t.2.2.2.1, t.2.2.2.2.1⟩ : S28), t.2.2.2.2.2, ())
def impl_DropFrom.spec : Spc env := ⟨11, [.st .s28, .i .i64], [.st .s28, .b], impl_DropFrom.run⟩
def impl_DropFrom.ap {R : Type} (k : Nat) (h0 : S28) (h1 : Int) (K : S28 → Bool → Option R) : Option R := (impl_DropFrom.run k (h0, h1, ())).bind fun r => K (r.1 : S28) (r.2.1 : Bool)
theorem impl_DropFrom.ap_of {R : Type} {k : Nat} {h0 : S28} {h1 : Int} {r0 : S28} {r1 : Bool} {K : S28 → Bool → Option R} (h : impl_DropFrom.run k (h0, h1, ()) = some (r0, r1, ())) : impl_DropFrom.ap k h0 h1 K = K r0 r1 := by unfold impl_DropFrom.ap; rw [h]; rfl
theorem impl_DropFrom.snd : Snd env impl_DropFrom.spec := evF_snd env_ok (sndC impl_cloneFeature.snd (sndC impl_DropPoint.snd (sndC impl_IsFeature.snd (sndC impl_DropCorner.snd (sndN)))))
attribute [local irreducible] impl_DropFrom.run
theorem impl_DropFrom.rt (a0 : Int) (a1 : Int) (a2 : Int) (a3 : ByteArray) (a4 : List S77) (a5 : Bool) : impl_DropFrom.ret (⟨a0, a1, a2, a3, a4⟩ : S28) a5 = some (impl_DropFrom.toH (a0, a1, a2, a3, a4, a5)) := rfl
theorem impl_DropFrom.go {k : Nat} {a0_0 : Int} {a0_1 : Int} {a0_2 : Int} {a0_3 : ByteArray} {l0_4 : List S77} {a1 : Int} {t} (h : impl_DropFrom.f k a0_0 a0_1 a0_2 a0_3 l0_4 a1 = some t) (K : Nat) (hK : k ≤ K) : impl_DropFrom.run K ((⟨a0_0, a0_1, a0_2, a0_3, l0_4⟩ : S28), a1, ()) = some (impl_DropFrom.toH t) := by
  rw [impl_DropFrom.ef]
  (try dsimp only)
  unfold impl_DropFrom.f at h
  repeat' (with_reducible first
   | exact nos h
   | (cases some_inj h; exact impl_DropFrom.rt _ _ _ _ _ _)
   | ((have q : impl_DropFrom.j0 k _ _ _ _ _ _ _ _ _ _ _ = some _ := h; clear q); rcases k with _ | k <;> simp only [impl_DropFrom.j0, reduceCtorEq] at h)
   | (simp only [Option.bind_some] at h)
   | (refine ite_by h ?_ ?_ <;> (intro hc h; (try simp only [nrm] at hc)))
   | refine itT ?_
   | refine itF ?_
   | (refine bind_by h (fun t ht h => ?_); (first | refine (impl_cloneFeature.ap_of (impl_cloneFeature.go ht _)).trans ?_ | refine (impl_DropPoint.ap_of (impl_DropPoint.go ht _ (by omega))).trans ?_ | refine (impl_IsFeature.ap_of (impl_IsFeature.go ht _ (by omega))).trans ?_ | refine (impl_DropCorner.ap_of (impl_DropCorner.go ht _ (by omega))).trans ?_); (try dsimp only at h ⊢))
   | (simp only [nr2] at h ⊢)
   | (exfalso; omega))
def impl_greatest.Fs : List (Spc env) := [impl_HowMeet.spec]
def impl_greatest.fin : St eΓ → Option (HL eΓ [.i .i64]) := finR env Try.f88.results.toList [.i .i64]
def impl_greatest.cut : Nat → Option (List (Lv SC)) := lk [(3, [⟨1, none, false⟩, ⟨5, none, false⟩, ⟨10, none, false⟩, ⟨11, none, false⟩, ⟨12, none, false⟩]), (6, [⟨1, none, false⟩, ⟨5, none, false⟩, ⟨7, none, false⟩, ⟨10, none, false⟩, ⟨11, none, false⟩, ⟨12, none, false⟩, ⟨16, none, false⟩, ⟨17, none, false⟩, ⟨18, none, false⟩])]
def impl_greatest.ret (r0 : Int) : Option (HL eΓ [.i .i64]) := some (r0, ())
def impl_greatest.p3 (k : Nat) (x5 : Int) (x11 : Int) (x12 : Int) (x1 : List S95) (x10 : List S95) : Option (HL eΓ [.i .i64]) := evM env impl_greatest.Fs Try.f88.ntmps impl_greatest.fin impl_greatest.cut k [.code (sub_ [1, 1, 0, 1, 0, 0, 0] (bodyOf Try.f88)), .code (sub_ [1, 1, 0, 1, 0, 0, 1] (bodyOf Try.f88)), .lp (sub_ [1, 1, 0, 1, 0, 0] (bodyOf Try.f88)), .blk 0, .code (sub_ [1, 1, 1] (bodyOf Try.f88))] (mkSt [(1, .c (.sl 0)), (5, .c (.v (.int .i64 x5))), (10, .c (.sl 1)), (11, .c (.v (.int .i64 x11))), (12, .c (.v (.int .i64 x12)))] [.row .ro 95 (.st .s95) x1, .row .ro 95 (.st .s95) x10])
def impl_greatest.p6 (k : Nat) (x5 : Int) (x11 : Int) (x12 : Int) (x17 : Int) (x18 : Int) (x1 : List S95) (b1_0 : Int) (b1_1 : Int) (b1_2 : Int) (b1_3 : Int) (x10 : List S95) : Option (HL eΓ [.i .i64]) := evM env impl_greatest.Fs Try.f88.ntmps impl_greatest.fin impl_greatest.cut k [.code (sub_ [1, 1, 0, 1, 0, 0, 1, 1, 0, 0, 1, 1, 0, 0, 0] (bodyOf Try.f88)), .code (sub_ [1, 1, 0, 1, 0, 0, 1, 1, 0, 0, 1, 1, 0, 0, 1] (bodyOf Try.f88)), .lp (sub_ [1, 1, 0, 1, 0, 0, 1, 1, 0, 0, 1, 1, 0, 0] (bodyOf Try.f88)), .blk 2, .blk 1, .code (sub_ [1, 1, 0, 1, 0, 0, 1, 1, 1] (bodyOf Try.f88)), .lp (sub_ [1, 1, 0, 1, 0, 0] (bodyOf Try.f88)), .blk 0, .code (sub_ [1, 1, 1] (bodyOf Try.f88))] (mkSt [(1, .c (.sl 0)), (5, .c (.v (.int .i64 x5))), (7, .c (.ptr 1 0)), (10, .c (.sl 2)), (11, .c (.v (.int .i64 x11))), (12, .c (.v (.int .i64 x12))), (16, .c (.sl 0)), (17, .c (.v (.int .i64 x17))), (18, .c (.v (.int .i64 x18)))] [.row .ro 95 (.st .s95) x1, .box 95 [.v (.int .i64 b1_0), .v (.int .i64 b1_1), .v (.int .i64 b1_2), .v (.int .i64 b1_3)], .row .ro 95 (.st .s95) x10])
theorem impl_greatest.e3 (k : Nat) (x5 : Int) (x11 : Int) (x12 : Int) (x1 : List S95) (x10 : List S95) : impl_greatest.p3 (k + 1) x5 x11 x12 x1 x10 = if x12 < x11 then (if 0 ≤ x12 then (if x12 < (x10.length : Int) then (impl_greatest.p6 k x5 x11 x12 (x1.length : Int) 0 x1 ((rd_T95 x10 x12).f0.f0) ((rd_T95 x10 x12).f0.f1) ((rd_T95 x10 x12).f1.f0) ((rd_T95 x10 x12).f1.f1) x10) else none) else none) else (impl_greatest.ret x5) := by kernel_rfl
theorem impl_greatest.e6 (k : Nat) (x5 : Int) (x11 : Int) (x12 : Int) (x17 : Int) (x18 : Int) (x1 : List S95) (b1_0 : Int) (b1_1 : Int) (b1_2 : Int) (b1_3 : Int) (x10 : List S95) : impl_greatest.p6 (k + 1) x5 x11 x12 x17 x18 x1 b1_0 b1_1 b1_2 b1_3 x10 = if x18 < x17 then (if 0 ≤ x18 then (if x18 < (x1.length : Int) then (impl_HowMeet.ap k (⟨(⟨b1_0, b1_1⟩ : S77), (⟨b1_2, b1_3⟩ : S77)⟩ : S95) (⟨(⟨(rd_T95 x1 x18).f0.f0, (rd_T95 x1 x18).f0.f1⟩ : S77), (⟨(rd_T95 x1 x18).f1.f0, (rd_T95 x1 x18).f1.f1⟩ : S77)⟩ : S95) fun r1 => impl_greatest.p6 k (mx x5 r1) x11 x12 x17 (wrap64 (x18 + 1)) x1 b1_0 b1_1 b1_2 b1_3 x10) else none) else none) else (impl_greatest.p3 k x5 x11 (wrap64 (x12 + 1)) x1 x10) := by kernel_rfl
def impl_greatest.run (k : Nat) (h : HL eΓ [.l 95 (.st .s95), .l 95 (.st .s95)]) : Option (HL eΓ [.i .i64]) := evF env impl_greatest.Fs Try.f88 impl_greatest.cut [.l 95 (.st .s95), .l 95 (.st .s95)] [.i .i64] k h
theorem impl_greatest.ef (k : Nat) (h0 : List S95) (h1 : List S95) : impl_greatest.run k (h0, h1, ()) = impl_greatest.p3 k 0 (h0.length : Int) 0 h1 h0 := by kernel_rfl
def impl_greatest.toH (t : Int) : HL eΓ [.i .i64] := (t, ())
def impl_greatest.spec : Spc env := ⟨88, [.l 95 (.st .s95), .l 95 (.st .s95)], [.i .i64], impl_greatest.run⟩
def impl_greatest.ap {R : Type} (k : Nat) (h0 : List S95) (h1 : List S95) (K : Int → Option R) : Option R := (impl_greatest.run k (h0, h1, ())).bind fun r => K (r.1 : Int)
theorem impl_greatest.ap_of {R : Type} {k : Nat} {h0 : List S95} {h1 : List S95} {r0 : Int} {K : Int → Option R} (h : impl_greatest.run k (h0, h1, ()) = some (r0, ())) : impl_greatest.ap k h0 h1 K = K r0 := by unfold impl_greatest.ap; rw [h]; rfl
theorem impl_greatest.snd : Snd env impl_greatest.spec := evF_snd env_ok (sndC impl_HowMeet.snd (sndN))
attribute [local irreducible] impl_greatest.run
theorem impl_greatest.rt (a0 : Int) : impl_greatest.ret a0 = some (impl_greatest.toH (a0)) := rfl
theorem impl_greatest.br (n : Nat) : (∀ K, n ≤ K → ∀ (x5 : Int) (x11 : Int) (x12 : Int) (x1 : List S95) (x10 : List S95) t, impl_greatest.l0 n x1 x5 x10 x11 x12 = some t → impl_greatest.p3 K x5 x11 x12 x1 x10 = some (impl_greatest.toH t)) ∧ (∀ K, n ≤ K → ∀ (x5 : Int) (x11 : Int) (x12 : Int) (x17 : Int) (x18 : Int) (x1 : List S95) (b1_0 : Int) (b1_1 : Int) (b1_2 : Int) (b1_3 : Int) (x10 : List S95) t, impl_greatest.l1 n x1 x5 x10 x11 x12 x1 x17 x18 b1_0 b1_1 b1_2 b1_3 = some t → impl_greatest.p6 K x5 x11 x12 x17 x18 x1 b1_0 b1_1 b1_2 b1_3 x10 = some (impl_greatest.toH t)) := by
  induction n using Nat.strongRecOn with
  | _ n ih =>
  refine ⟨fun K hK x5 x11 x12 x1 x10 t h => ?_, fun K hK x5 x11 x12 x17 x18 x1 b1_0 b1_1 b1_2 b1_3 x10 t h => ?_⟩
  all_goals (rcases n with _ | k)
  all_goals (try (exact nos h))
  all_goals (obtain ⟨K, rfl⟩ : ∃ q, K = q + 1 := ⟨K - 1, by omega⟩)
  all_goals (first | rw [impl_greatest.e3] | rw [impl_greatest.e6])
  all_goals (simp only [impl_greatest.l0, impl_greatest.l1] at h)
  repeat' (with_reducible first
   | exact nos h
   | (cases some_inj h; exact impl_greatest.rt _)
   | exact (ih _ (by omega)).1 _ (by omega) _ _ _ _ _ _ h
   | exact (ih _ (by omega)).2 _ (by omega) _ _ _ _ _ _ _ _ _ _ _ _ h
   | (simp only [Option.bind_some] at h)
   | (refine ite_by h ?_ ?_ <;> (intro hc h; (try simp only [nrm] at hc)))
   | refine itT ?_
   | refine itF ?_
   | (refine bind_by h (fun t ht h => ?_); refine (impl_HowMeet.ap_of (impl_HowMeet.go ht _ (by omega))).trans ?_; (try dsimp only at h ⊢))
   | (simp only [nr2] at h ⊢)
   | (exfalso; omega))
theorem impl_greatest.go {k : Nat} {l0 : List S95} {l1 : List S95} {t} (h : impl_greatest.f k l0 l1 = some t) (K : Nat) (hK : k ≤ K) : impl_greatest.run K (l0, l1, ()) = some (impl_greatest.toH t) := by
  rw [impl_greatest.ef]
  (try dsimp only)
  unfold impl_greatest.f at h
  repeat' (with_reducible first
   | exact nos h
   | (cases some_inj h; exact impl_greatest.rt _)
   | exact (impl_greatest.br _).1 _ (by omega) _ _ _ _ _ _ h
   | exact (impl_greatest.br _).2 _ (by omega) _ _ _ _ _ _ _ _ _ _ _ _ h
   | (simp only [Option.bind_some] at h)
   | (refine ite_by h ?_ ?_ <;> (intro hc h; (try simp only [nrm] at hc)))
   | refine itT ?_
   | refine itF ?_
   | (refine bind_by h (fun t ht h => ?_); refine (impl_HowMeet.ap_of (impl_HowMeet.go ht _ (by omega))).trans ?_; (try dsimp only at h ⊢))
   | (simp only [nr2] at h ⊢)
   | (exfalso; omega))
def impl_PartsOf.Fs : List (Spc env) := [impl_IsFeature.spec, impl_SegmentsOf.spec, impl_RingSegments.spec]
def impl_PartsOf.cut : Nat → Option (List (Lv SC)) := lk []
def impl_PartsOf.ret (r0 : List S95) : Option (HL eΓ [.l 95 (.st .s95)]) := some (r0, ())
def impl_PartsOf.run (k : Nat) (h : HL eΓ [.st .s28]) : Option (HL eΓ [.l 95 (.st .s95)]) := evF env impl_PartsOf.Fs Try.f89 impl_PartsOf.cut [.st .s28] [.l 95 (.st .s95)] k h
theorem impl_PartsOf.ef (k : Nat) (h0 : S28) : impl_PartsOf.run k (h0, ()) = impl_IsFeature.ap k (⟨h0.f0, h0.f1, h0.f2, h0.f3, h0.f4⟩ : S28) fun r1 => if r1 = true then (if h0.f1 = 2 then (impl_SegmentsOf.ap k h0.f4 fun r2 => impl_PartsOf.ret r2) else (if h0.f1 = 3 then (impl_RingSegments.ap k h0.f4 fun r3 => impl_PartsOf.ret r3) else (impl_PartsOf.ret ([] : List S95)))) else (impl_PartsOf.ret ([] : List S95)) := by kernel_rfl
def impl_PartsOf.toH (t : (List (S95))) : HL eΓ [.l 95 (.st .s95)] := (t, ())
def impl_PartsOf.spec : Spc env := ⟨89, [.st .s28], [.l 95 (.st .s95)], impl_PartsOf.run⟩
def impl_PartsOf.ap {R : Type} (k : Nat) (h0 : S28) (K : (List S95) → Option R) : Option R := (impl_PartsOf.run k (h0, ())).bind fun r => K (r.1 : List S95)
theorem impl_PartsOf.ap_of {R : Type} {k : Nat} {h0 : S28} {r0 : List S95} {K : (List S95) → Option R} (h : impl_PartsOf.run k (h0, ()) = some (r0, ())) : impl_PartsOf.ap k h0 K = K r0 := by unfold impl_PartsOf.ap; rw [h]; rfl
theorem impl_PartsOf.snd : Snd env impl_PartsOf.spec := evF_snd env_ok (sndC impl_IsFeature.snd (sndC impl_SegmentsOf.snd (sndC impl_RingSegments.snd (sndN))))
attribute [local irreducible] impl_PartsOf.run
theorem impl_PartsOf.rt (a0 : List S95) : impl_PartsOf.ret a0 = some (impl_PartsOf.toH (a0)) := rfl
theorem impl_PartsOf.go {k : Nat} {a0_0 : Int} {a0_1 : Int} {a0_2 : Int} {a0_3 : ByteArray} {l0_4 : List S77} {t} (h : impl_PartsOf.f k a0_0 a0_1 a0_2 a0_3 l0_4 = some t) (K : Nat) (hK : k ≤ K) : impl_PartsOf.run K ((⟨a0_0, a0_1, a0_2, a0_3, l0_4⟩ : S28), ()) = some (impl_PartsOf.toH t) := by
  rw [impl_PartsOf.ef]
  (try dsimp only)
  unfold impl_PartsOf.f at h
  repeat' (with_reducible first
   | exact nos h
   | (cases some_inj h; exact impl_PartsOf.rt _)
   | (simp only [Option.bind_some] at h)
   | (refine ite_by h ?_ ?_ <;> (intro hc h; (try simp only [nrm] at hc)))
   | refine itT ?_
   | refine itF ?_
   | (refine bind_by h (fun t ht h => ?_); (first | refine (impl_IsFeature.ap_of (impl_IsFeature.go ht _ (by omega))).trans ?_ | refine (impl_SegmentsOf.ap_of (impl_SegmentsOf.go ht _ (by omega))).trans ?_ | refine (impl_RingSegments.ap_of (impl_RingSegments.go ht _ (by omega))).trans ?_); (try dsimp only at h ⊢))
   | (simp only [nr2] at h ⊢)
   | (exfalso; omega))
def impl_FeaturesMeet.Fs : List (Spc env) := [impl_PartsOf.spec, impl_greatest.spec]
def impl_FeaturesMeet.cut : Nat → Option (List (Lv SC)) := lk []
def impl_FeaturesMeet.ret (r0 : Int) : Option (HL eΓ [.i .i64]) := some (r0, ())
def impl_FeaturesMeet.run (k : Nat) (h : HL eΓ [.st .s28, .st .s28]) : Option (HL eΓ [.i .i64]) := evF env impl_FeaturesMeet.Fs Try.f50 impl_FeaturesMeet.cut [.st .s28, .st .s28] [.i .i64] k h
theorem impl_FeaturesMeet.ef (k : Nat) (h0 : S28) (h1 : S28) : impl_FeaturesMeet.run k (h0, h1, ()) = impl_PartsOf.ap k (⟨h0.f0, h0.f1, h0.f2, h0.f3, h0.f4⟩ : S28) fun r1 => impl_PartsOf.ap k (⟨h1.f0, h1.f1, h1.f2, h1.f3, h1.f4⟩ : S28) fun r2 => impl_greatest.ap k r1 r2 fun r3 => impl_FeaturesMeet.ret r3 := by kernel_rfl
def impl_FeaturesMeet.toH (t : Int) : HL eΓ [.i .i64] := (t, ())
def impl_FeaturesMeet.spec : Spc env := ⟨50, [.st .s28, .st .s28], [.i .i64], impl_FeaturesMeet.run⟩
def impl_FeaturesMeet.ap {R : Type} (k : Nat) (h0 : S28) (h1 : S28) (K : Int → Option R) : Option R := (impl_FeaturesMeet.run k (h0, h1, ())).bind fun r => K (r.1 : Int)
theorem impl_FeaturesMeet.ap_of {R : Type} {k : Nat} {h0 : S28} {h1 : S28} {r0 : Int} {K : Int → Option R} (h : impl_FeaturesMeet.run k (h0, h1, ()) = some (r0, ())) : impl_FeaturesMeet.ap k h0 h1 K = K r0 := by unfold impl_FeaturesMeet.ap; rw [h]; rfl
theorem impl_FeaturesMeet.snd : Snd env impl_FeaturesMeet.spec := evF_snd env_ok (sndC impl_PartsOf.snd (sndC impl_greatest.snd (sndN)))
attribute [local irreducible] impl_FeaturesMeet.run
theorem impl_FeaturesMeet.rt (a0 : Int) : impl_FeaturesMeet.ret a0 = some (impl_FeaturesMeet.toH (a0)) := rfl
theorem impl_FeaturesMeet.go {k : Nat} {a0_0 : Int} {a0_1 : Int} {a0_2 : Int} {a0_3 : ByteArray} {l0_4 : List S77} {a1_0 : Int} {a1_1 : Int} {a1_2 : Int} {a1_3 : ByteArray} {l1_4 : List S77} {t} (h : impl_FeaturesMeet.f k a0_0 a0_1 a0_2 a0_3 l0_4 a1_0 a1_1 a1_2 a1_3 l1_4 = some t) (K : Nat) (hK : k ≤ K) : impl_FeaturesMeet.run K ((⟨a0_0, a0_1, a0_2, a0_3, l0_4⟩ : S28), (⟨a1_0, a1_1, a1_2, a1_3, l1_4⟩ : S28), ()) = some (impl_FeaturesMeet.toH t) := by
  rw [impl_FeaturesMeet.ef]
  (try dsimp only)
  unfold impl_FeaturesMeet.f at h
  repeat' (with_reducible first
   | exact nos h
   | (cases some_inj h; exact impl_FeaturesMeet.rt _)
   | (simp only [Option.bind_some] at h)
   | (refine ite_by h ?_ ?_ <;> (intro hc h; (try simp only [nrm] at hc)))
   | refine itT ?_
   | refine itF ?_
   | (refine bind_by h (fun t ht h => ?_); (first | refine (impl_PartsOf.ap_of (impl_PartsOf.go ht _ (by omega))).trans ?_ | refine (impl_greatest.ap_of (impl_greatest.go ht _ (by omega))).trans ?_); (try dsimp only at h ⊢))
   | (simp only [nr2] at h ⊢)
   | (exfalso; omega))
def impl_CanShrink.Fs : List (Spc env) := [impl_DropFrom.spec, impl_FeaturesMeet.spec]
def impl_CanShrink.fin : St eΓ → Option (HL eΓ [.b]) := finR env Try.f18.results.toList [.b]
def impl_CanShrink.cut : Nat → Option (List (Lv SC)) := lk [(5, [⟨3, none, false⟩, ⟨7, none, false⟩, ⟨19, none, false⟩, ⟨20, none, false⟩, ⟨21, none, false⟩])]
def impl_CanShrink.ret (r0 : Bool) : Option (HL eΓ [.b]) := some (r0, ())
def impl_CanShrink.p5 (k : Nat) (x20 : Int) (x21 : Int) (b0_0 : Int) (b0_1 : Int) (b0_2 : Int) (b0_3 : ByteArray) (b1_0 : Int) (b1_1 : Int) (b1_2 : Int) (b1_3 : ByteArray) (x19 : List S28) (b3 : List S77) (b4 : List S77) : Option (HL eΓ [.b]) := evM env impl_CanShrink.Fs Try.f18.ntmps impl_CanShrink.fin impl_CanShrink.cut k [.code (sub_ [1, 1, 1, 0, 1, 0, 0, 0] (bodyOf Try.f18)), .code (sub_ [1, 1, 1, 0, 1, 0, 0, 1] (bodyOf Try.f18)), .lp (sub_ [1, 1, 1, 0, 1, 0, 0] (bodyOf Try.f18)), .blk 0, .code (sub_ [1, 1, 1, 1] (bodyOf Try.f18))] (mkSt [(3, .c (.ptr 0 0)), (7, .c (.ptr 1 0)), (19, .c (.sl 2)), (20, .c (.v (.int .i64 x20))), (21, .c (.v (.int .i64 x21)))] [.box 28 [.v (.int .i64 b0_0), .v (.int .i64 b0_1), .v (.int .i64 b0_2), .v (.string b0_3), .sl 3], .box 28 [.v (.int .i64 b1_0), .v (.int .i64 b1_1), .v (.int .i64 b1_2), .v (.string b1_3), .sl 4], .row .ro 28 (.st .s28) x19, .row .ro 77 (.st .s77) b3, .row .own 77 (.st .s77) b4])
theorem impl_CanShrink.e5 (k : Nat) (x20 : Int) (x21 : Int) (b0_0 : Int) (b0_1 : Int) (b0_2 : Int) (b0_3 : ByteArray) (b1_0 : Int) (b1_1 : Int) (b1_2 : Int) (b1_3 : ByteArray) (x19 : List S28) (b3 : List S77) (b4 : List S77) : impl_CanShrink.p5 (k + 1) x20 x21 b0_0 b0_1 b0_2 b0_3 b1_0 b1_1 b1_2 b1_3 x19 b3 b4 = if x21 < x20 then (if 0 ≤ x21 then (if x21 < (x19.length : Int) then (impl_FeaturesMeet.ap k (⟨b1_0, b1_1, b1_2, b1_3, b4⟩ : S28) (⟨(rd_T28 x19 x21).f0, (rd_T28 x19 x21).f1, (rd_T28 x19 x21).f2, (rd_T28 x19 x21).f3, (rd_T28 x19 x21).f4⟩ : S28) fun r1 => impl_FeaturesMeet.ap k (⟨b0_0, b0_1, b0_2, b0_3, b3⟩ : S28) (⟨(rd_T28 x19 x21).f0, (rd_T28 x19 x21).f1, (rd_T28 x19 x21).f2, (rd_T28 x19 x21).f3, (rd_T28 x19 x21).f4⟩ : S28) fun r2 => if r1 > r2 then (impl_CanShrink.ret false) else (impl_CanShrink.p5 k x20 (wrap64 (x21 + 1)) b0_0 b0_1 b0_2 b0_3 b1_0 b1_1 b1_2 b1_3 x19 b3 b4)) else none) else none) else (impl_CanShrink.ret true) := by kernel_rfl
def impl_CanShrink.run (k : Nat) (h : HL eΓ [.st .s28, .i .i64, .l 28 (.st .s28)]) : Option (HL eΓ [.b]) := evF env impl_CanShrink.Fs Try.f18 impl_CanShrink.cut [.st .s28, .i .i64, .l 28 (.st .s28)] [.b] k h
theorem impl_CanShrink.ef (k : Nat) (h0 : S28) (h1 : Int) (h2 : List S28) : impl_CanShrink.run k (h0, h1, h2, ()) = impl_DropFrom.ap k (⟨h0.f0, h0.f1, h0.f2, h0.f3, h0.f4⟩ : S28) h1 fun r1_0 r1_1 => if (!r1_1) = true then (impl_CanShrink.ret false) else (impl_CanShrink.p5 k (h2.length : Int) 0 h0.f0 h0.f1 h0.f2 h0.f3 r1_0.f0 r1_0.f1 r1_0.f2 r1_0.f3 h2 h0.f4 r1_0.f4) := by kernel_rfl
def impl_CanShrink.toH (t : Bool) : HL eΓ [.b] := (t, ())
def impl_CanShrink.spec : Spc env := ⟨18, [.st .s28, .i .i64, .l 28 (.st .s28)], [.b], impl_CanShrink.run⟩
theorem impl_CanShrink.snd : Snd env impl_CanShrink.spec := evF_snd env_ok (sndC impl_DropFrom.snd (sndC impl_FeaturesMeet.snd (sndN)))
attribute [local irreducible] impl_CanShrink.run
theorem impl_CanShrink.rt (a0 : Bool) : impl_CanShrink.ret a0 = some (impl_CanShrink.toH (a0)) := rfl
theorem impl_CanShrink.br (n : Nat) : (∀ K, n ≤ K → ∀ (x20 : Int) (x21 : Int) (b0_0 : Int) (b0_1 : Int) (b0_2 : Int) (b0_3 : ByteArray) (b1_0 : Int) (b1_1 : Int) (b1_2 : Int) (b1_3 : ByteArray) (x19 : List S28) (b3 : List S77) (b4 : List S77) t, impl_CanShrink.l0 n x19 x20 x21 b0_0 b0_1 b0_2 b0_3 b3 b1_0 b1_1 b1_2 b1_3 b4 = some t → impl_CanShrink.p5 K x20 x21 b0_0 b0_1 b0_2 b0_3 b1_0 b1_1 b1_2 b1_3 x19 b3 b4 = some (impl_CanShrink.toH t)) := by
  induction n using Nat.strongRecOn with
  | _ n ih =>
  intro K hK x20 x21 b0_0 b0_1 b0_2 b0_3 b1_0 b1_1 b1_2 b1_3 x19 b3 b4 t h
  all_goals (rcases n with _ | k)
  all_goals (try (exact nos h))
  all_goals (obtain ⟨K, rfl⟩ : ∃ q, K = q + 1 := ⟨K - 1, by omega⟩)
  all_goals (first | rw [impl_CanShrink.e5])
  all_goals (simp only [impl_CanShrink.l0] at h)
  repeat' (with_reducible first
   | exact nos h
   | (cases some_inj h; exact impl_CanShrink.rt _)
   | exact (ih _ (by omega)) _ (by omega) _ _ _ _ _ _ _ _ _ _ _ _ _ _ h
   | (simp only [Option.bind_some] at h)
   | (refine ite_by h ?_ ?_ <;> (intro hc h; (try simp only [nrm] at hc)))
   | refine itT ?_
   | refine itF ?_
   | (refine bind_by h (fun t ht h => ?_); (first | refine (impl_DropFrom.ap_of (impl_DropFrom.go ht _ (by omega))).trans ?_ | refine (impl_FeaturesMeet.ap_of (impl_FeaturesMeet.go ht _ (by omega))).trans ?_); (try dsimp only at h ⊢))
   | (simp only [nr2] at h ⊢)
   | (exfalso; omega))
theorem impl_CanShrink.go {k : Nat} {a0_0 : Int} {a0_1 : Int} {a0_2 : Int} {a0_3 : ByteArray} {l0_4 : List S77} {a1 : Int} {l2 : List S28} {t} (h : impl_CanShrink.f k a0_0 a0_1 a0_2 a0_3 l0_4 a1 l2 = some t) (K : Nat) (hK : k ≤ K) : impl_CanShrink.run K ((⟨a0_0, a0_1, a0_2, a0_3, l0_4⟩ : S28), a1, l2, ()) = some (impl_CanShrink.toH t) := by
  rw [impl_CanShrink.ef]
  (try dsimp only)
  unfold impl_CanShrink.f at h
  repeat' (with_reducible first
   | exact nos h
   | (cases some_inj h; exact impl_CanShrink.rt _)
   | exact (impl_CanShrink.br _) _ (by omega) _ _ _ _ _ _ _ _ _ _ _ _ _ _ h
   | (simp only [Option.bind_some] at h)
   | (refine ite_by h ?_ ?_ <;> (intro hc h; (try simp only [nrm] at hc)))
   | refine itT ?_
   | refine itF ?_
   | (refine bind_by h (fun t ht h => ?_); (first | refine (impl_DropFrom.ap_of (impl_DropFrom.go ht _ (by omega))).trans ?_ | refine (impl_FeaturesMeet.ap_of (impl_FeaturesMeet.go ht _ (by omega))).trans ?_); (try dsimp only at h ⊢))
   | (simp only [nr2] at h ⊢)
   | (exfalso; omega))
theorem impl_CanShrink.calls (k : Nat) (a0_0 : Int) (a0_1 : Int) (a0_2 : Int) (a0_3 : ByteArray) (A0_4 : Option Addr) (c0_4 : Nat) (l0_4 : List (S77)) (a1 : Int) (A2 : Option Addr) (c2 : Nat) (l2 : List (S28)) (r : Bool) (w : World) (hr0_4 : Kd.C k77 w A0_4 l0_4.length l0_4) (hc0_4 : l0_4.length ≤ c0_4) (hr2 : Kd.C k28 w A2 l2.length l2) (hc2 : l2.length ≤ c2) (h : impl_CanShrink.f k a0_0 a0_1 a0_2 a0_3 l0_4 a1 l2 = some r) :
  Calls Try.prog 18 #[.agg #[.int .i64 a0_0, .int .i64 a0_1, .int .i64 a0_2, .string a0_3, .slice A0_4 l0_4.length c0_4], .int .i64 a1, .slice A2 l2.length c2] w fun e w' => e = .returned (.bool r) ∧ Below w.heap.size w w' := by
  refine (impl_CanShrink.snd.calls _ _ _ (impl_CanShrink.go h k (Nat.le_refl k)) w [.agg #[.int .i64 a0_0, .int .i64 a0_1, .int .i64 a0_2, .string a0_3, .slice A0_4 l0_4.length c0_4], .int .i64 a1, .slice A2 l2.length c2] ⟨⟨_, rfl, (H28.K _ _ _).2 ⟨rfl, rfl, rfl, rfl, ⟨_, _, rfl, hc0_4, hr0_4⟩, trivial⟩⟩, rfl, ⟨_, _, rfl, hc2, hr2⟩, trivial⟩).mono ?_
  rintro e w' ⟨v, rfl, hB, vs, oks, rfl, hR, _⟩
  obtain ⟨x0_, vs, o0_, oks, rfl, rfl, m0_, hR⟩ := rmsC hR
  obtain rfl := rmsN hR
  obtain rfl := List.singleton_inj.1 (show [x0_] = [Value.bool r] from m0_)
  exact ⟨rfl, hB⟩
def laws_eqFeatureS.Fs : List (Spc env) := [laws_eqFeature.spec]
def laws_eqFeatureS.fin : St eΓ → Option (HL eΓ [.b]) := finR env Try.f19.results.toList [.b]
def laws_eqFeatureS.cut : Nat → Option (List (Lv SC)) := lk [(4, [⟨0, none, false⟩, ⟨1, none, false⟩, ⟨5, none, false⟩])]
def laws_eqFeatureS.ret (r0 : Bool) : Option (HL eΓ [.b]) := some (r0, ())
def laws_eqFeatureS.p4 (k : Nat) (x5 : Int) (x0 : List S28) (x1 : List S28) : Option (HL eΓ [.b]) := evM env laws_eqFeatureS.Fs Try.f19.ntmps laws_eqFeatureS.fin laws_eqFeatureS.cut k [.code (sub_ [1, 1, 0, 1, 0, 0, 0, 0] (bodyOf Try.f19)), .code (sub_ [1, 1, 0, 1, 0, 0, 0, 1] (bodyOf Try.f19)), .code (sub_ [1, 1, 0, 1, 0, 0, 1] (bodyOf Try.f19)), .lp (sub_ [1, 1, 0, 1, 0, 0] (bodyOf Try.f19)), .blk 0, .code (sub_ [1, 1, 1] (bodyOf Try.f19))] (mkSt [(0, .c (.sl 0)), (1, .c (.sl 1)), (5, .c (.v (.int .i64 x5)))] [.row .ro 28 (.st .s28) x0, .row .ro 28 (.st .s28) x1])
theorem laws_eqFeatureS.e4 (k : Nat) (x5 : Int) (x0 : List S28) (x1 : List S28) : laws_eqFeatureS.p4 (k + 1) x5 x0 x1 = if x5 < (x0.length : Int) then (if 0 ≤ x5 then (if x5 < (x0.length : Int) then (if 0 ≤ x5 then (if x5 < (x1.length : Int) then (laws_eqFeature.ap k (⟨(rd_T28 x0 x5).f0, (rd_T28 x0 x5).f1, (rd_T28 x0 x5).f2, (rd_T28 x0 x5).f3, (rd_T28 x0 x5).f4⟩ : S28) (⟨(rd_T28 x1 x5).f0, (rd_T28 x1 x5).f1, (rd_T28 x1 x5).f2, (rd_T28 x1 x5).f3, (rd_T28 x1 x5).f4⟩ : S28) fun r1 => if (!r1) = true then (laws_eqFeatureS.ret false) else (laws_eqFeatureS.p4 k (wrap64 (x5 + 1)) x0 x1)) else none) else none) else none) else none) else (laws_eqFeatureS.ret true) := by kernel_rfl
def laws_eqFeatureS.run (k : Nat) (h : HL eΓ [.l 28 (.st .s28), .l 28 (.st .s28)]) : Option (HL eΓ [.b]) := evF env laws_eqFeatureS.Fs Try.f19 laws_eqFeatureS.cut [.l 28 (.st .s28), .l 28 (.st .s28)] [.b] k h
theorem laws_eqFeatureS.ef (k : Nat) (h0 : List S28) (h1 : List S28) : laws_eqFeatureS.run k (h0, h1, ()) = if ¬ (h0.length : Int) = (h1.length : Int) then (laws_eqFeatureS.ret false) else (laws_eqFeatureS.p4 k 0 h0 h1) := by kernel_rfl
def laws_eqFeatureS.toH (t : Bool) : HL eΓ [.b] := (t, ())
def laws_eqFeatureS.spec : Spc env := ⟨19, [.l 28 (.st .s28), .l 28 (.st .s28)], [.b], laws_eqFeatureS.run⟩
theorem laws_eqFeatureS.snd : Snd env laws_eqFeatureS.spec := evF_snd env_ok (sndC laws_eqFeature.snd (sndN))
attribute [local irreducible] laws_eqFeatureS.run
theorem laws_eqFeatureS.rt (a0 : Bool) : laws_eqFeatureS.ret a0 = some (laws_eqFeatureS.toH (a0)) := rfl
theorem laws_eqFeatureS.br (n : Nat) : (∀ K, n ≤ K → ∀ (x5 : Int) (x0 : List S28) (x1 : List S28) t, laws_eqFeatureS.l0 n x0 x1 x5 = some t → laws_eqFeatureS.p4 K x5 x0 x1 = some (laws_eqFeatureS.toH t)) := by
  induction n using Nat.strongRecOn with
  | _ n ih =>
  intro K hK x5 x0 x1 t h
  all_goals (rcases n with _ | k)
  all_goals (try (exact nos h))
  all_goals (obtain ⟨K, rfl⟩ : ∃ q, K = q + 1 := ⟨K - 1, by omega⟩)
  all_goals (first | rw [laws_eqFeatureS.e4])
  all_goals (simp only [laws_eqFeatureS.l0] at h)
  repeat' (with_reducible first
   | exact nos h
   | (cases some_inj h; exact laws_eqFeatureS.rt _)
   | exact (ih _ (by omega)) _ (by omega) _ _ _ _ h
   | (simp only [Option.bind_some] at h)
   | (refine ite_by h ?_ ?_ <;> (intro hc h; (try simp only [nrm] at hc)))
   | refine itT ?_
   | refine itF ?_
   | (refine bind_by h (fun t ht h => ?_); refine (laws_eqFeature.ap_of (laws_eqFeature.go ht _ (by omega))).trans ?_; (try dsimp only at h ⊢))
   | (simp only [nr2] at h ⊢)
   | (exfalso; omega))
theorem laws_eqFeatureS.go {k : Nat} {l0 : List S28} {l1 : List S28} {t} (h : laws_eqFeatureS.f k l0 l1 = some t) (K : Nat) (hK : k ≤ K) : laws_eqFeatureS.run K (l0, l1, ()) = some (laws_eqFeatureS.toH t) := by
  rw [laws_eqFeatureS.ef]
  (try dsimp only)
  unfold laws_eqFeatureS.f at h
  repeat' (with_reducible first
   | exact nos h
   | (cases some_inj h; exact laws_eqFeatureS.rt _)
   | exact (laws_eqFeatureS.br _) _ (by omega) _ _ _ _ h
   | (simp only [Option.bind_some] at h)
   | (refine ite_by h ?_ ?_ <;> (intro hc h; (try simp only [nrm] at hc)))
   | refine itT ?_
   | refine itF ?_
   | (refine bind_by h (fun t ht h => ?_); refine (laws_eqFeature.ap_of (laws_eqFeature.go ht _ (by omega))).trans ?_; (try dsimp only at h ⊢))
   | (simp only [nr2] at h ⊢)
   | (exfalso; omega))
theorem laws_eqFeatureS.calls (k : Nat) (A0 : Option Addr) (c0 : Nat) (l0 : List (S28)) (A1 : Option Addr) (c1 : Nat) (l1 : List (S28)) (r : Bool) (w : World) (hr0 : Kd.C k28 w A0 l0.length l0) (hc0 : l0.length ≤ c0) (hr1 : Kd.C k28 w A1 l1.length l1) (hc1 : l1.length ≤ c1) (h : laws_eqFeatureS.f k l0 l1 = some r) :
  Calls Try.prog 19 #[.slice A0 l0.length c0, .slice A1 l1.length c1] w fun e w' => e = .returned (.bool r) ∧ Below w.heap.size w w' := by
  refine (laws_eqFeatureS.snd.calls _ _ _ (laws_eqFeatureS.go h k (Nat.le_refl k)) w [.slice A0 l0.length c0, .slice A1 l1.length c1] ⟨⟨_, _, rfl, hc0, hr0⟩, ⟨_, _, rfl, hc1, hr1⟩, trivial⟩).mono ?_
  rintro e w' ⟨v, rfl, hB, vs, oks, rfl, hR, _⟩
  obtain ⟨x0_, vs, o0_, oks, rfl, rfl, m0_, hR⟩ := rmsC hR
  obtain rfl := rmsN hR
  obtain rfl := List.singleton_inj.1 (show [x0_] = [Value.bool r] from m0_)
  exact ⟨rfl, hB⟩
end
end Go.Proofs.Ytkebhlkbnnlegaa.PFnExactCanShrink
