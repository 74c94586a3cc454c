-- Written by a program of this session's (evlaw.py).
import Derived.Test.YtkebhlkbnnlegaaPFnExactShrinkFeaturex3
namespace Go.Proofs.Ytkebhlkbnnlegaa.PFnExactShrinkFeature
open Go.RowKit Go.Proofs.YtkebhlkbnnlegaaW.PrintWords Go.Proofs.YtkebhlkbnnlegaaW.PrintLast Go.Proofs.YtkebhlkbnnlegaaW.PrintMore Go.Proofs.YtkebhlkbnnlegaaGeo Go.Proofs.YtkebhlkbnnlegaaHand Go.Proofs.YtkebhlkbnnlegaaMeet Go.Proofs.YtkebhlkbnnlegaaQuiet Go.Proofs.YtkebhlkbnnlegaaZ
open Go Go.Proofs.YtkebhlkbnnlegaaEv
attribute [local go_sem] max2_int min2_int max_two min_two max_three min_three max_four min_four   -- for this text's walks alone
set_option linter.unusedVariables false
set_option linter.unusedSimpArgs false



set_option linter.unusedSimpArgs false

attribute [local go_sem high] eqA77
set_option linter.unusedVariables false
set_option linter.unusedSimpArgs false
set_option maxRecDepth 100000
noncomputable section
attribute [local irreducible] impl_RingSegments.run
theorem impl_RingSegments.rt (a0 : List S95) : impl_RingSegments.ret a0 = some (impl_RingSegments.toH (a0)) := rfl
theorem impl_RingSegments.go {k : Nat} {l0 : List S77} {t} (h : impl_RingSegments.f k l0 = some t) (K : Nat) (hK : k ≤ K) : impl_RingSegments.run K (l0, ()) = some (impl_RingSegments.toH t) := by
  rw [impl_RingSegments.ef]
  (try dsimp only)
  unfold impl_RingSegments.f at h
  repeat' (with_reducible first
   | exact nos h
   | (cases some_inj h; exact impl_RingSegments.rt _)
   | (simp only [Option.bind_some] at h)
   | (refine ite_by h ?_ ?_ <;> (intro hc h; (try simp only [nrm] at hc)))
   | refine itT ?_
   | refine itF ?_
   | (refine bind_by h (fun t ht h => ?_); (first | refine (impl_IsRing.ap_of (impl_IsRing.go ht _ (by omega))).trans ?_ | refine (impl_around.ap_of (impl_around.go ht _ (by omega))).trans ?_); (try dsimp only at h ⊢))
   | (simp only [nr2] at h ⊢)
   | (exfalso; omega))
def impl_TwiceArea.Fs : List (Spc env) := [impl_RingSegments.spec]
def impl_TwiceArea.fin : St eΓ → Option (HL eΓ [.i .i64]) := finR env Try.f80.results.toList [.i .i64]
def impl_TwiceArea.cut : Nat → Option (List (Lv SC)) := lk [(3, [⟨3, none, false⟩, ⟨7, none, false⟩, ⟨8, none, false⟩, ⟨9, none, false⟩])]
def impl_TwiceArea.ret (r0 : Int) : Option (HL eΓ [.i .i64]) := some (r0, ())
def impl_TwiceArea.p3 (k : Nat) (x3 : Int) (x8 : Int) (x9 : Int) (x7 : List S95) : Option (HL eΓ [.i .i64]) := evM env impl_TwiceArea.Fs Try.f80.ntmps impl_TwiceArea.fin impl_TwiceArea.cut k [.code (sub_ [1, 1, 0, 1, 0, 0, 0] (bodyOf Try.f80)), .code (sub_ [1, 1, 0, 1, 0, 0, 1] (bodyOf Try.f80)), .lp (sub_ [1, 1, 0, 1, 0, 0] (bodyOf Try.f80)), .blk 0, .code (sub_ [1, 1, 1] (bodyOf Try.f80))] (mkSt [(3, .c (.v (.int .i64 x3))), (7, .c (.sl 0)), (8, .c (.v (.int .i64 x8))), (9, .c (.v (.int .i64 x9)))] [.row .own 95 (.st .s95) x7])
theorem impl_TwiceArea.e3 (k : Nat) (x3 : Int) (x8 : Int) (x9 : Int) (x7 : List S95) : impl_TwiceArea.p3 (k + 1) x3 x8 x9 x7 = if x9 < x8 then (if 0 ≤ x9 then (if x9 < (x7.length : Int) then (impl_TwiceArea.p3 k (wrap64 (x3 + (wrap64 ((wrap64 (((rd_T95 x7 x9).f0.f0) * ((rd_T95 x7 x9).f1.f1))) - (wrap64 (((rd_T95 x7 x9).f0.f1) * ((rd_T95 x7 x9).f1.f0))))))) x8 (wrap64 (x9 + 1)) x7) else none) else none) else (impl_TwiceArea.ret x3) := by kernel_rfl
def impl_TwiceArea.run (k : Nat) (h : HL eΓ [.l 77 (.st .s77)]) : Option (HL eΓ [.i .i64]) := evF env impl_TwiceArea.Fs Try.f80 impl_TwiceArea.cut [.l 77 (.st .s77)] [.i .i64] k h
theorem impl_TwiceArea.ef (k : Nat) (h0 : List S77) : impl_TwiceArea.run k (h0, ()) = impl_RingSegments.ap k h0 fun r1 => impl_TwiceArea.p3 k 0 (r1.length : Int) 0 r1 := by kernel_rfl
def impl_TwiceArea.toH (t : Int) : HL eΓ [.i .i64] := (t, ())
def impl_TwiceArea.spec : Spc env := ⟨80, [.l 77 (.st .s77)], [.i .i64], impl_TwiceArea.run⟩
def impl_TwiceArea.ap {R : Type} (k : Nat) (h0 : List S77) (K : Int → Option R) : Option R := (impl_TwiceArea.run k (h0, ())).bind fun r => K (r.1 : Int)
theorem impl_TwiceArea.ap_of {R : Type} {k : Nat} {h0 : List S77} {r0 : Int} {K : Int → Option R} (h : impl_TwiceArea.run k (h0, ()) = some (r0, ())) : impl_TwiceArea.ap k h0 K = K r0 := by unfold impl_TwiceArea.ap; rw [h]; rfl
theorem impl_TwiceArea.snd : Snd env impl_TwiceArea.spec := evF_snd env_ok (sndC impl_RingSegments.snd (sndN))
attribute [local irreducible] impl_TwiceArea.run
theorem impl_TwiceArea.rt (a0 : Int) : impl_TwiceArea.ret a0 = some (impl_TwiceArea.toH (a0)) := rfl
theorem impl_TwiceArea.br (n : Nat) : (∀ K, n ≤ K → ∀ (x3 : Int) (x8 : Int) (x9 : Int) (x7 : List S95) t, impl_TwiceArea.l0 n x3 x7 x8 x9 = some t → impl_TwiceArea.p3 K x3 x8 x9 x7 = some (impl_TwiceArea.toH t)) := by
  induction n using Nat.strongRecOn with
  | _ n ih =>
  intro K hK x3 x8 x9 x7 t h
  all_goals (rcases n with _ | k)
  all_goals (try (exact nos h))
  all_goals (obtain ⟨K, rfl⟩ : ∃ q, K = q + 1 := ⟨K - 1, by omega⟩)
  all_goals (first | rw [impl_TwiceArea.e3])
  all_goals (simp only [impl_TwiceArea.l0] at h)
  repeat' (with_reducible first
   | exact nos h
   | (cases some_inj h; exact impl_TwiceArea.rt _)
   | exact (ih _ (by omega)) _ (by omega) _ _ _ _ _ h
   | (simp only [Option.bind_some] at h)
   | (refine ite_by h ?_ ?_ <;> (intro hc h; (try simp only [nrm] at hc)))
   | refine itT ?_
   | refine itF ?_
   | (refine bind_by h (fun t ht h => ?_); refine (impl_RingSegments.ap_of (impl_RingSegments.go ht _ (by omega))).trans ?_; (try dsimp only at h ⊢))
   | (simp only [nr2] at h ⊢)
   | (exfalso; omega))
theorem impl_TwiceArea.go {k : Nat} {l0 : List S77} {t} (h : impl_TwiceArea.f k l0 = some t) (K : Nat) (hK : k ≤ K) : impl_TwiceArea.run K (l0, ()) = some (impl_TwiceArea.toH t) := by
  rw [impl_TwiceArea.ef]
  (try dsimp only)
  unfold impl_TwiceArea.f at h
  repeat' (with_reducible first
   | exact nos h
   | (cases some_inj h; exact impl_TwiceArea.rt _)
   | exact (impl_TwiceArea.br _) _ (by omega) _ _ _ _ _ h
   | (simp only [Option.bind_some] at h)
   | (refine ite_by h ?_ ?_ <;> (intro hc h; (try simp only [nrm] at hc)))
   | refine itT ?_
   | refine itF ?_
   | (refine bind_by h (fun t ht h => ?_); refine (impl_RingSegments.ap_of (impl_RingSegments.go ht _ (by omega))).trans ?_; (try dsimp only at h ⊢))
   | (simp only [nr2] at h ⊢)
   | (exfalso; omega))
def impl_DropCorner.Fs : List (Spc env) := [impl_IsRing.spec, impl_Point.spec, impl_InRange.spec, impl_without.spec, impl_TwiceArea.spec, cmp_Compare_int.spec]
def impl_DropCorner.cut : Nat → Option (List (Lv SC)) := lk []
def impl_DropCorner.ret (r0 : List S77) (r1 : Bool) : Option (HL eΓ [.l 77 (.st .s77), .b]) := some (r0, r1, ())
def impl_DropCorner.run (k : Nat) (h : HL eΓ [.l 77 (.st .s77), .i .i64]) : Option (HL eΓ [.l 77 (.st .s77), .b]) := evF env impl_DropCorner.Fs Try.f44 impl_DropCorner.cut [.l 77 (.st .s77), .i .i64] [.l 77 (.st .s77), .b] k h
theorem impl_DropCorner.ef (k : Nat) (h0 : List S77) (h1 : Int) : impl_DropCorner.run k (h0, h1, ()) = impl_IsRing.ap k h0 fun r1 => if (!r1) = true then (impl_Point.ap k h0 fun r2 => impl_DropCorner.ret r2 false) else (impl_InRange.ap k h1 0 (wrap64 ((h0.length : Int) - 1)) fun r3 => if (!r3) = true then (impl_Point.ap k h0 fun r4 => impl_DropCorner.ret r4 false) else (impl_without.ap k h0 h1 fun r5 => impl_IsRing.ap k r5 fun r6 => if (!r6) = true then (impl_Point.ap k h0 fun r7 => impl_DropCorner.ret r7 false) else (impl_TwiceArea.ap k r5 fun r8 => cmp_Compare_int.ap k r8 0 fun r9 => impl_TwiceArea.ap k h0 fun r10 => cmp_Compare_int.ap k r10 0 fun r11 => if ¬ r9 = r11 then (impl_Point.ap k h0 fun r12 => impl_DropCorner.ret r12 false) else (impl_DropCorner.ret r5 true)))) := by kernel_rfl
def impl_DropCorner.toH (t : (List (S77)) × Bool) : HL eΓ [.l 77 (.st .s77), .b] := (t.1, t.2, ())
def impl_DropCorner.spec : Spc env := ⟨44, [.l 77 (.st .s77), .i .i64], [.l 77 (.st .s77), .b], impl_DropCorner.run⟩
def impl_DropCorner.ap {R : Type} (k : Nat) (h0 : List S77) (h1 : Int) (K : (List S77) → Bool → Option R) : Option R := (impl_DropCorner.run k (h0, h1, ())).bind fun r => K (r.1 : List S77) (r.2.1 : Bool)
theorem impl_DropCorner.ap_of {R : Type} {k : Nat} {h0 : List S77} {h1 : Int} {r0 : List S77} {r1 : Bool} {K : (List S77) → Bool → Option R} (h : impl_DropCorner.run k (h0, h1, ()) = some (r0, r1, ())) : impl_DropCorner.ap k h0 h1 K = K r0 r1 := by unfold impl_DropCorner.ap; rw [h]; rfl
theorem impl_DropCorner.snd : Snd env impl_DropCorner.spec := evF_snd env_ok (sndC impl_IsRing.snd (sndC impl_Point.snd (sndC impl_InRange.snd (sndC impl_without.snd (sndC impl_TwiceArea.snd (sndC cmp_Compare_int.snd (sndN)))))))
attribute [local irreducible] impl_DropCorner.run
theorem impl_DropCorner.rt (a0 : List S77) (a1 : Bool) : impl_DropCorner.ret a0 a1 = some (impl_DropCorner.toH (a0, a1)) := rfl
theorem impl_DropCorner.go {k : Nat} {l0 : List S77} {a1 : Int} {t} (h : impl_DropCorner.f k l0 a1 = some t) (K : Nat) (hK : k ≤ K) : impl_DropCorner.run K (l0, a1, ()) = some (impl_DropCorner.toH t) := by
  rw [impl_DropCorner.ef]
  (try dsimp only)
  unfold impl_DropCorner.f at h
  repeat' (with_reducible first
   | exact nos h
   | (cases some_inj h; exact impl_DropCorner.rt _ _)
   | ((have q : impl_DropCorner.j0 k _ _ _ = some _ := h; clear q); rcases k with _ | k <;> simp only [impl_DropCorner.j0, reduceCtorEq] at h)
   | (simp only [Option.bind_some] at h)
   | (refine ite_by h ?_ ?_ <;> (intro hc h; (try simp only [nrm] at hc)))
   | refine itT ?_
   | refine itF ?_
   | (refine bind_by h (fun t ht h => ?_); (first | refine (impl_IsRing.ap_of (impl_IsRing.go ht _ (by omega))).trans ?_ | refine (impl_Point.ap_of (impl_Point.go ht _)).trans ?_ | refine (impl_InRange.ap_of (impl_InRange.go ht _)).trans ?_ | refine (impl_without.ap_of (impl_without.go ht _)).trans ?_ | refine (impl_TwiceArea.ap_of (impl_TwiceArea.go ht _ (by omega))).trans ?_ | refine (cmp_Compare_int.ap_of (cmp_Compare_int.go ht _)).trans ?_); (try dsimp only at h ⊢))
   | (simp only [nr2, Int.zero_sub] at h ⊢)
   | (exfalso; omega))
def impl_IsName.Fs : List (Spc env) := [impl_InRange.spec]
def impl_IsName.fin : St eΓ → Option (HL eΓ [.b]) := finR env Try.f81.results.toList [.b]
def impl_IsName.cut : Nat → Option (List (Lv SC)) := lk [(2, [⟨0, none, false⟩, ⟨5, none, false⟩, ⟨6, none, false⟩])]
def impl_IsName.ret (r0 : Bool) : Option (HL eΓ [.b]) := some (r0, ())
def impl_IsName.p2 (k : Nat) (x0 : ByteArray) (x5 : Int) (x6 : Int) : Option (HL eΓ [.b]) := evM env impl_IsName.Fs Try.f81.ntmps impl_IsName.fin impl_IsName.cut k [.code (sub_ [1, 0, 1, 0, 0, 0] (bodyOf Try.f81)), .code (sub_ [1, 0, 1, 0, 0, 1] (bodyOf Try.f81)), .lp (sub_ [1, 0, 1, 0, 0] (bodyOf Try.f81)), .blk 0, .code (sub_ [1, 1] (bodyOf Try.f81))] (mkSt [(0, .c (.v (.string x0))), (5, .c (.v (.int .i64 x5))), (6, .c (.v (.int .i64 x6)))] [])
theorem impl_IsName.e2 (k : Nat) (x0 : ByteArray) (x5 : Int) (x6 : Int) : impl_IsName.p2 (k + 1) x0 x5 x6 = if x6 < x5 then (if 0 ≤ x6 then (if x6 < (x0.size : Int) then (if (bt x0 x6) < 97 then (impl_IsName.ret false) else (if 0 ≤ x6 then (if x6 < (x0.size : Int) then (if (bt x0 x6) > 122 then (impl_IsName.ret false) else (impl_IsName.p2 k x0 x5 (wrap64 (x6 + 1)))) else none) else none)) else none) else none) else (impl_InRange.ap k (x0.size : Int) 1 8 fun r1 => impl_IsName.ret r1) := by kernel_rfl
def impl_IsName.run (k : Nat) (h : HL eΓ [.s]) : Option (HL eΓ [.b]) := evF env impl_IsName.Fs Try.f81 impl_IsName.cut [.s] [.b] k h
theorem impl_IsName.ef (k : Nat) (h0 : ByteArray) : impl_IsName.run k (h0, ()) = impl_IsName.p2 k h0 (h0.size : Int) 0 := by kernel_rfl
def impl_IsName.toH (t : Bool) : HL eΓ [.b] := (t, ())
def impl_IsName.spec : Spc env := ⟨81, [.s], [.b], impl_IsName.run⟩
def impl_IsName.ap {R : Type} (k : Nat) (h0 : ByteArray) (K : Bool → Option R) : Option R := (impl_IsName.run k (h0, ())).bind fun r => K (r.1 : Bool)
theorem impl_IsName.ap_of {R : Type} {k : Nat} {h0 : ByteArray} {r0 : Bool} {K : Bool → Option R} (h : impl_IsName.run k (h0, ()) = some (r0, ())) : impl_IsName.ap k h0 K = K r0 := by unfold impl_IsName.ap; rw [h]; rfl
theorem impl_IsName.snd : Snd env impl_IsName.spec := evF_snd env_ok (sndC impl_InRange.snd (sndN))
attribute [local irreducible] impl_IsName.run
theorem impl_IsName.rt (a0 : Bool) : impl_IsName.ret a0 = some (impl_IsName.toH (a0)) := rfl
theorem impl_IsName.br (n : Nat) : (∀ K, n ≤ K → ∀ (x0 : ByteArray) (x5 : Int) (x6 : Int) t, impl_IsName.l0 n x0 x5 x6 = some t → impl_IsName.p2 K x0 x5 x6 = some (impl_IsName.toH t)) := by
  induction n using Nat.strongRecOn with
  | _ n ih =>
  intro K hK x0 x5 x6 t h
  all_goals (rcases n with _ | k)
  all_goals (try (exact nos h))
  all_goals (obtain ⟨K, rfl⟩ : ∃ q, K = q + 1 := ⟨K - 1, by omega⟩)
  all_goals (first | rw [impl_IsName.e2])
  all_goals (simp only [impl_IsName.l0] at h)
  repeat' (with_reducible first
   | exact nos h
   | (cases some_inj h; exact impl_IsName.rt _)
   | exact (ih _ (by omega)) _ (by omega) _ _ _ _ h
   | (simp only [Option.bind_some] at h)
   | (refine ite_by h ?_ ?_ <;> (intro hc h; (try simp only [nrm] at hc)))
   | refine itT ?_
   | refine itF ?_
   | (refine bind_by h (fun t ht h => ?_); refine (impl_InRange.ap_of (impl_InRange.go ht _)).trans ?_; (try dsimp only at h ⊢))
   | (simp only [nr2] at h ⊢)
   | (exfalso; omega))
theorem impl_IsName.go {k : Nat} {a0 : ByteArray} {t} (h : impl_IsName.f k a0 = some t) (K : Nat) (hK : k ≤ K) : impl_IsName.run K (a0, ()) = some (impl_IsName.toH t) := by
  rw [impl_IsName.ef]
  (try dsimp only)
  unfold impl_IsName.f at h
  repeat' (with_reducible first
   | exact nos h
   | (cases some_inj h; exact impl_IsName.rt _)
   | exact (impl_IsName.br _) _ (by omega) _ _ _ _ h
   | (simp only [Option.bind_some] at h)
   | (refine ite_by h ?_ ?_ <;> (intro hc h; (try simp only [nrm] at hc)))
   | refine itT ?_
   | refine itF ?_
   | (refine bind_by h (fun t ht h => ?_); refine (impl_InRange.ap_of (impl_InRange.go ht _)).trans ?_; (try dsimp only at h ⊢))
   | (simp only [nr2] at h ⊢)
   | (exfalso; omega))
def impl_SegmentsOf.Fs : List (Spc env) := [impl_IsLine.spec]
def impl_SegmentsOf.fin : St eΓ → Option (HL eΓ [.l 95 (.st .s95)]) := finR env Try.f110.results.toList [.l 95 (.st .s95)]
def impl_SegmentsOf.cut : Nat → Option (List (Lv SC)) := lk [(5, [⟨0, none, false⟩, ⟨3, none, false⟩, ⟨4, none, false⟩])]
def impl_SegmentsOf.ret (r0 : List S95) : Option (HL eΓ [.l 95 (.st .s95)]) := some (r0, ())
def impl_SegmentsOf.p5 (k : Nat) (x4 : Int) (x0 : List S77) (x3 : List S95) : Option (HL eΓ [.l 95 (.st .s95)]) := evM env impl_SegmentsOf.Fs Try.f110.ntmps impl_SegmentsOf.fin impl_SegmentsOf.cut k [.code (sub_ [1, 1, 1, 0, 1, 0, 0, 0, 0] (bodyOf Try.f110)), .code (sub_ [1, 1, 1, 0, 1, 0, 0, 0, 1] (bodyOf Try.f110)), .code (sub_ [1, 1, 1, 0, 1, 0, 0, 1] (bodyOf Try.f110)), .lp (sub_ [1, 1, 1, 0, 1, 0, 0] (bodyOf Try.f110)), .blk 0, .code (sub_ [1, 1, 1, 1] (bodyOf Try.f110))] (mkSt [(0, .c (.sl 0)), (3, .c (.sl 1)), (4, .c (.v (.int .i64 x4)))] [.row .ro 77 (.st .s77) x0, .row .own 95 (.st .s95) x3])
theorem impl_SegmentsOf.e5 (k : Nat) (x4 : Int) (x0 : List S77) (x3 : List S95) : impl_SegmentsOf.p5 (k + 1) x4 x0 x3 = if x4 < (x0.length : Int) then (if 0 ≤ (wrap64 (x4 - 1)) then (if (wrap64 (x4 - 1)) < (x0.length : Int) then (if 0 ≤ x4 then (if x4 < (x0.length : Int) then (if (x3.length + 1) * 32 ≤ 140737488355328 then (impl_SegmentsOf.p5 k (wrap64 (x4 + 1)) x0 (x3 ++ [(⟨(⟨(rd_T77 x0 (wrap64 (x4 - 1))).f0, (rd_T77 x0 (wrap64 (x4 - 1))).f1⟩ : S77), (⟨(rd_T77 x0 x4).f0, (rd_T77 x0 x4).f1⟩ : S77)⟩ : S95)])) else none) else none) else none) else none) else none) else (impl_SegmentsOf.ret x3) := by kernel_rfl
def impl_SegmentsOf.run (k : Nat) (h : HL eΓ [.l 77 (.st .s77)]) : Option (HL eΓ [.l 95 (.st .s95)]) := evF env impl_SegmentsOf.Fs Try.f110 impl_SegmentsOf.cut [.l 77 (.st .s77)] [.l 95 (.st .s95)] k h
theorem impl_SegmentsOf.ef (k : Nat) (h0 : List S77) : impl_SegmentsOf.run k (h0, ()) = impl_IsLine.ap k h0 fun r1 => if (!r1) = true then (impl_SegmentsOf.ret ([] : List S95)) else (impl_SegmentsOf.p5 k 1 h0 ([] : List S95)) := by kernel_rfl
def impl_SegmentsOf.toH (t : (List (S95))) : HL eΓ [.l 95 (.st .s95)] := (t, ())
def impl_SegmentsOf.spec : Spc env := ⟨110, [.l 77 (.st .s77)], [.l 95 (.st .s95)], impl_SegmentsOf.run⟩
def impl_SegmentsOf.ap {R : Type} (k : Nat) (h0 : List S77) (K : (List S95) → Option R) : Option R := (impl_SegmentsOf.run k (h0, ())).bind fun r => K (r.1 : List S95)
theorem impl_SegmentsOf.ap_of {R : Type} {k : Nat} {h0 : List S77} {r0 : List S95} {K : (List S95) → Option R} (h : impl_SegmentsOf.run k (h0, ()) = some (r0, ())) : impl_SegmentsOf.ap k h0 K = K r0 := by unfold impl_SegmentsOf.ap; rw [h]; rfl
theorem impl_SegmentsOf.snd : Snd env impl_SegmentsOf.spec := evF_snd env_ok (sndC impl_IsLine.snd (sndN))
attribute [local irreducible] impl_SegmentsOf.run
theorem impl_SegmentsOf.rt (a0 : List S95) : impl_SegmentsOf.ret a0 = some (impl_SegmentsOf.toH (a0)) := rfl
theorem impl_SegmentsOf.br (n : Nat) : (∀ K, n ≤ K → ∀ (x4 : Int) (x0 : List S77) (x3 : List S95) t, impl_SegmentsOf.l0 n x0 x3 x4 = some t → impl_SegmentsOf.p5 K x4 x0 x3 = some (impl_SegmentsOf.toH t)) := by
  induction n using Nat.strongRecOn with
  | _ n ih =>
  intro K hK x4 x0 x3 t h
  all_goals (rcases n with _ | k)
  all_goals (try (exact nos h))
  all_goals (obtain ⟨K, rfl⟩ : ∃ q, K = q + 1 := ⟨K - 1, by omega⟩)
  all_goals (first | rw [impl_SegmentsOf.e5])
  all_goals (simp only [impl_SegmentsOf.l0] at h)
  repeat' (with_reducible first
   | exact nos h
   | (cases some_inj h; exact impl_SegmentsOf.rt _)
   | exact (ih _ (by omega)) _ (by omega) _ _ _ _ h
   | (simp only [Option.bind_some] at h)
   | (refine ite_by h ?_ ?_ <;> (intro hc h; (try simp only [nrm] at hc)))
   | refine itT ?_
   | refine itF ?_
   | (refine bind_by h (fun t ht h => ?_); refine (impl_IsLine.ap_of (impl_IsLine.go ht _ (by omega))).trans ?_; (try dsimp only at h ⊢))
   | (simp only [nr2] at h ⊢)
   | (exfalso; omega))
theorem impl_SegmentsOf.go {k : Nat} {l0 : List S77} {t} (h : impl_SegmentsOf.f k l0 = some t) (K : Nat) (hK : k ≤ K) : impl_SegmentsOf.run K (l0, ()) = some (impl_SegmentsOf.toH t) := by
  rw [impl_SegmentsOf.ef]
  (try dsimp only)
  unfold impl_SegmentsOf.f at h
  repeat' (with_reducible first
   | exact nos h
   | (cases some_inj h; exact impl_SegmentsOf.rt _)
   | exact (impl_SegmentsOf.br _) _ (by omega) _ _ _ _ h
   | (simp only [Option.bind_some] at h)
   | (refine ite_by h ?_ ?_ <;> (intro hc h; (try simp only [nrm] at hc)))
   | refine itT ?_
   | refine itF ?_
   | (refine bind_by h (fun t ht h => ?_); refine (impl_IsLine.ap_of (impl_IsLine.go ht _ (by omega))).trans ?_; (try dsimp only at h ⊢))
   | (simp only [nr2] at h ⊢)
   | (exfalso; omega))
def impl_IsSimple.Fs : List (Spc env) := [impl_IsLine.spec, impl_SegmentsOf.spec, impl_HowMeet.spec]
def impl_IsSimple.fin : St eΓ → Option (HL eΓ [.b]) := finR env Try.f83.results.toList [.b]
def impl_IsSimple.cut : Nat → Option (List (Lv SC)) := lk [(5, [⟨3, none, false⟩, ⟨13, none, false⟩, ⟨14, none, false⟩]), (8, [⟨3, none, false⟩, ⟨4, none, false⟩, ⟨13, none, false⟩, ⟨14, none, false⟩, ⟨17, none, false⟩, ⟨18, none, false⟩])]
def impl_IsSimple.ret (r0 : Bool) : Option (HL eΓ [.b]) := some (r0, ())
def impl_IsSimple.p5 (k : Nat) (x13 : Int) (x14 : Int) (x3 : List S95) : Option (HL eΓ [.b]) := evM env impl_IsSimple.Fs Try.f83.ntmps impl_IsSimple.fin impl_IsSimple.cut k [.code (sub_ [1, 1, 1, 0, 1, 0, 0, 0] (bodyOf Try.f83)), .code (sub_ [1, 1, 1, 0, 1, 0, 0, 1] (bodyOf Try.f83)), .lp (sub_ [1, 1, 1, 0, 1, 0, 0] (bodyOf Try.f83)), .blk 0, .code (sub_ [1, 1, 1, 1] (bodyOf Try.f83))] (mkSt [(3, .c (.sl 0)), (13, .c (.v (.int .i64 x13))), (14, .c (.v (.int .i64 x14)))] [.row .own 95 (.st .s95) x3])
def impl_IsSimple.p8 (k : Nat) (x4 : Int) (x13 : Int) (x14 : Int) (x17 : Int) (x18 : Int) (x3 : List S95) : Option (HL eΓ [.b]) := evM env impl_IsSimple.Fs Try.f83.ntmps impl_IsSimple.fin impl_IsSimple.cut k [.code (sub_ [1, 1, 1, 0, 1, 0, 0, 1, 1, 0, 0, 1, 1, 0, 0, 0] (bodyOf Try.f83)), .code (sub_ [1, 1, 1, 0, 1, 0, 0, 1, 1, 0, 0, 1, 1, 0, 0, 1] (bodyOf Try.f83)), .lp (sub_ [1, 1, 1, 0, 1, 0, 0, 1, 1, 0, 0, 1, 1, 0, 0] (bodyOf Try.f83)), .blk 2, .blk 1, .code (sub_ [1, 1, 1, 0, 1, 0, 0, 1, 1, 1] (bodyOf Try.f83)), .lp (sub_ [1, 1, 1, 0, 1, 0, 0] (bodyOf Try.f83)), .blk 0, .code (sub_ [1, 1, 1, 1] (bodyOf Try.f83))] (mkSt [(3, .c (.sl 0)), (4, .c (.v (.int .i64 x4))), (13, .c (.v (.int .i64 x13))), (14, .c (.v (.int .i64 x14))), (17, .c (.v (.int .i64 x17))), (18, .c (.v (.int .i64 x18)))] [.row .own 95 (.st .s95) x3])
theorem impl_IsSimple.e5 (k : Nat) (x13 : Int) (x14 : Int) (x3 : List S95) : impl_IsSimple.p5 (k + 1) x13 x14 x3 = if x14 < x13 then (impl_IsSimple.p8 k x14 x13 x14 x14 0 x3) else (impl_IsSimple.ret true) := by kernel_rfl
theorem impl_IsSimple.e8 (k : Nat) (x4 : Int) (x13 : Int) (x14 : Int) (x17 : Int) (x18 : Int) (x3 : List S95) : impl_IsSimple.p8 (k + 1) x4 x13 x14 x17 x18 x3 = if x18 < x17 then (if x18 = (wrap64 (x4 - 1)) then (if 0 ≤ x4 then (if x4 < (x3.length : Int) then (if 0 ≤ x18 then (if x18 < (x3.length : Int) then (impl_HowMeet.ap k (⟨(⟨(rd_T95 x3 x4).f0.f0, (rd_T95 x3 x4).f0.f1⟩ : S77), (⟨(rd_T95 x3 x4).f1.f0, (rd_T95 x3 x4).f1.f1⟩ : S77)⟩ : S95) (⟨(⟨(rd_T95 x3 x18).f0.f0, (rd_T95 x3 x18).f0.f1⟩ : S77), (⟨(rd_T95 x3 x18).f1.f0, (rd_T95 x3 x18).f1.f1⟩ : S77)⟩ : S95) fun r1 => if ¬ r1 = 1 then (impl_IsSimple.ret false) else (impl_IsSimple.p8 k x4 x13 x14 x17 (wrap64 (x18 + 1)) x3)) else none) else none) else none) else none) else (if 0 ≤ x4 then (if x4 < (x3.length : Int) then (if 0 ≤ x18 then (if x18 < (x3.length : Int) then (impl_HowMeet.ap k (⟨(⟨(rd_T95 x3 x4).f0.f0, (rd_T95 x3 x4).f0.f1⟩ : S77), (⟨(rd_T95 x3 x4).f1.f0, (rd_T95 x3 x4).f1.f1⟩ : S77)⟩ : S95) (⟨(⟨(rd_T95 x3 x18).f0.f0, (rd_T95 x3 x18).f0.f1⟩ : S77), (⟨(rd_T95 x3 x18).f1.f0, (rd_T95 x3 x18).f1.f1⟩ : S77)⟩ : S95) fun r2 => if ¬ r2 = 0 then (impl_IsSimple.ret false) else (impl_IsSimple.p8 k x4 x13 x14 x17 (wrap64 (x18 + 1)) x3)) else none) else none) else none) else none)) else (impl_IsSimple.p5 k x13 (wrap64 (x14 + 1)) x3) := by kernel_rfl
def impl_IsSimple.run (k : Nat) (h : HL eΓ [.l 77 (.st .s77)]) : Option (HL eΓ [.b]) := evF env impl_IsSimple.Fs Try.f83 impl_IsSimple.cut [.l 77 (.st .s77)] [.b] k h
theorem impl_IsSimple.ef (k : Nat) (h0 : List S77) : impl_IsSimple.run k (h0, ()) = impl_IsLine.ap k h0 fun r1 => if (!r1) = true then (impl_IsSimple.ret false) else (impl_SegmentsOf.ap k h0 fun r2 => impl_IsSimple.p5 k (r2.length : Int) 0 r2) := by kernel_rfl
def impl_IsSimple.toH (t : Bool) : HL eΓ [.b] := (t, ())
def impl_IsSimple.spec : Spc env := ⟨83, [.l 77 (.st .s77)], [.b], impl_IsSimple.run⟩
def impl_IsSimple.ap {R : Type} (k : Nat) (h0 : List S77) (K : Bool → Option R) : Option R := (impl_IsSimple.run k (h0, ())).bind fun r => K (r.1 : Bool)
theorem impl_IsSimple.ap_of {R : Type} {k : Nat} {h0 : List S77} {r0 : Bool} {K : Bool → Option R} (h : impl_IsSimple.run k (h0, ()) = some (r0, ())) : impl_IsSimple.ap k h0 K = K r0 := by unfold impl_IsSimple.ap; rw [h]; rfl
theorem impl_IsSimple.snd : Snd env impl_IsSimple.spec := evF_snd env_ok (sndC impl_IsLine.snd (sndC impl_SegmentsOf.snd (sndC impl_HowMeet.snd (sndN))))
attribute [local irreducible] impl_IsSimple.run
theorem impl_IsSimple.rt (a0 : Bool) : impl_IsSimple.ret a0 = some (impl_IsSimple.toH (a0)) := rfl
theorem impl_IsSimple.br (n : Nat) : (∀ K, n ≤ K → ∀ (x13 : Int) (x14 : Int) (x3 : List S95) t, impl_IsSimple.l0 n x3 x13 x14 = some t → impl_IsSimple.p5 K x13 x14 x3 = some (impl_IsSimple.toH t)) ∧ (∀ K, n ≤ K → ∀ (x4 : Int) (x13 : Int) (x14 : Int) (x17 : Int) (x18 : Int) (x3 : List S95) t, impl_IsSimple.l1 n x3 x4 x13 x14 x17 x18 = some t → impl_IsSimple.p8 K x4 x13 x14 x17 x18 x3 = some (impl_IsSimple.toH t)) := by
  induction n using Nat.strongRecOn with
  | _ n ih =>
  refine ⟨fun K hK x13 x14 x3 t h => ?_, fun K hK x4 x13 x14 x17 x18 x3 t h => ?_⟩
  all_goals (rcases n with _ | k)
  all_goals (try (exact nos h))
  all_goals (obtain ⟨K, rfl⟩ : ∃ q, K = q + 1 := ⟨K - 1, by omega⟩)
  all_goals (first | rw [impl_IsSimple.e5] | rw [impl_IsSimple.e8])
  all_goals (simp only [impl_IsSimple.l0, impl_IsSimple.l1] at h)
  repeat' (with_reducible first
   | exact nos h
   | (cases some_inj h; exact impl_IsSimple.rt _)
   | exact (ih _ (by omega)).1 _ (by omega) _ _ _ _ h
   | exact (ih _ (by omega)).2 _ (by omega) _ _ _ _ _ _ _ h
   | (simp only [Option.bind_some] at h)
   | (refine ite_by h ?_ ?_ <;> (intro hc h; (try simp only [nrm] at hc)))
   | refine itT ?_
   | refine itF ?_
   | (refine bind_by h (fun t ht h => ?_); (first | refine (impl_IsLine.ap_of (impl_IsLine.go ht _ (by omega))).trans ?_ | refine (impl_SegmentsOf.ap_of (impl_SegmentsOf.go ht _ (by omega))).trans ?_ | refine (impl_HowMeet.ap_of (impl_HowMeet.go ht _ (by omega))).trans ?_); (try dsimp only at h ⊢))
   | (simp only [nr2] at h ⊢)
   | (exfalso; omega))
theorem impl_IsSimple.go {k : Nat} {l0 : List S77} {t} (h : impl_IsSimple.f k l0 = some t) (K : Nat) (hK : k ≤ K) : impl_IsSimple.run K (l0, ()) = some (impl_IsSimple.toH t) := by
  rw [impl_IsSimple.ef]
  (try dsimp only)
  unfold impl_IsSimple.f at h
  repeat' (with_reducible first
   | exact nos h
   | (cases some_inj h; exact impl_IsSimple.rt _)
   | exact (impl_IsSimple.br _).1 _ (by omega) _ _ _ _ h
   | exact (impl_IsSimple.br _).2 _ (by omega) _ _ _ _ _ _ _ h
   | (simp only [Option.bind_some] at h)
   | (refine ite_by h ?_ ?_ <;> (intro hc h; (try simp only [nrm] at hc)))
   | refine itT ?_
   | refine itF ?_
   | (refine bind_by h (fun t ht h => ?_); (first | refine (impl_IsLine.ap_of (impl_IsLine.go ht _ (by omega))).trans ?_ | refine (impl_SegmentsOf.ap_of (impl_SegmentsOf.go ht _ (by omega))).trans ?_ | refine (impl_HowMeet.ap_of (impl_HowMeet.go ht _ (by omega))).trans ?_); (try dsimp only at h ⊢))
   | (simp only [nr2] at h ⊢)
   | (exfalso; omega))
def impl_IsFeature.Fs : List (Spc env) := [impl_InRange.spec, impl_IsName.spec, impl_IsPoint.spec, impl_IsSimple.spec, impl_IsRing.spec]
def impl_IsFeature.cut : Nat → Option (List (Lv SC)) := lk []
def impl_IsFeature.ret (r0 : Bool) : Option (HL eΓ [.b]) := some (r0, ())
def impl_IsFeature.run (k : Nat) (h : HL eΓ [.st .s28]) : Option (HL eΓ [.b]) := evF env impl_IsFeature.Fs Try.f45 impl_IsFeature.cut [.st .s28] [.b] k h
theorem impl_IsFeature.ef (k : Nat) (h0 : S28) : impl_IsFeature.run k (h0, ()) = impl_InRange.ap k h0.f0 1 99 fun r1 => if (!r1) = true then (impl_IsFeature.ret false) else (impl_InRange.ap k h0.f2 0 9 fun r2 => if (!r2) = true then (impl_IsFeature.ret false) else (if ¬ h0.f3.toList = [] then (impl_IsName.ap k h0.f3 fun r3 => if (!r3) = true then (impl_IsFeature.ret false) else (if h0.f1 = 1 then (if (h0.f4.length : Int) = 1 then (if 0 < (h0.f4.length : Int) then (impl_IsPoint.ap k (⟨(rd_T77 h0.f4 0).f0, (rd_T77 h0.f4 0).f1⟩ : S77) fun r4 => impl_IsFeature.ret r4) else none) else (impl_IsFeature.ret false)) else (if h0.f1 = 2 then (impl_IsSimple.ap k h0.f4 fun r5 => impl_IsFeature.ret r5) else (if h0.f1 = 3 then (impl_IsRing.ap k h0.f4 fun r6 => impl_IsFeature.ret r6) else (impl_IsFeature.ret false))))) else (if h0.f1 = 1 then (if (h0.f4.length : Int) = 1 then (if 0 < (h0.f4.length : Int) then (impl_IsPoint.ap k (⟨(rd_T77 h0.f4 0).f0, (rd_T77 h0.f4 0).f1⟩ : S77) fun r7 => impl_IsFeature.ret r7) else none) else (impl_IsFeature.ret false)) else (if h0.f1 = 2 then (impl_IsSimple.ap k h0.f4 fun r8 => impl_IsFeature.ret r8) else (if h0.f1 = 3 then (impl_IsRing.ap k h0.f4 fun r9 => impl_IsFeature.ret r9) else (impl_IsFeature.ret false)))))) := by kernel_rfl
def impl_IsFeature.toH (t : Bool) : HL eΓ [.b] := (t, ())
def impl_IsFeature.spec : Spc env := ⟨45, [.st .s28], [.b], impl_IsFeature.run⟩
def impl_IsFeature.ap {R : Type} (k : Nat) (h0 : S28) (K : Bool → Option R) : Option R := (impl_IsFeature.run k (h0, ())).bind fun r => K (r.1 : Bool)
theorem impl_IsFeature.ap_of {R : Type} {k : Nat} {h0 : S28} {r0 : Bool} {K : Bool → Option R} (h : impl_IsFeature.run k (h0, ()) = some (r0, ())) : impl_IsFeature.ap k h0 K = K r0 := by unfold impl_IsFeature.ap; rw [h]; rfl
theorem impl_IsFeature.snd : Snd env impl_IsFeature.spec := evF_snd env_ok (sndC impl_InRange.snd (sndC impl_IsName.snd (sndC impl_IsPoint.snd (sndC impl_IsSimple.snd (sndC impl_IsRing.snd (sndN))))))
attribute [local irreducible] impl_IsFeature.run
theorem impl_IsFeature.rt (a0 : Bool) : impl_IsFeature.ret a0 = some (impl_IsFeature.toH (a0)) := rfl
theorem impl_IsFeature.go {k : Nat} {a0_0 : Int} {a0_1 : Int} {a0_2 : Int} {a0_3 : ByteArray} {l0_4 : List S77} {t} (h : impl_IsFeature.f k a0_0 a0_1 a0_2 a0_3 l0_4 = some t) (K : Nat) (hK : k ≤ K) : impl_IsFeature.run K ((⟨a0_0, a0_1, a0_2, a0_3, l0_4⟩ : S28), ()) = some (impl_IsFeature.toH t) := by
  rw [impl_IsFeature.ef]
  (try dsimp only)
  unfold impl_IsFeature.f at h
  repeat' (with_reducible first
   | exact nos h
   | (cases some_inj h; exact impl_IsFeature.rt _)
   | ((have q : impl_IsFeature.j0 k _ _ _ _ _ _ = some _ := h; clear q); rcases k with _ | k <;> simp only [impl_IsFeature.j0, reduceCtorEq] at h)
   | (simp only [Option.bind_some] at h)
   | (refine ite_by h ?_ ?_ <;> (intro hc h; (try simp only [nrm] at hc)))
   | refine itT ?_
   | refine itF ?_
   | (refine bind_by h (fun t ht h => ?_); (first | refine (impl_InRange.ap_of (impl_InRange.go ht _)).trans ?_ | refine (impl_IsName.ap_of (impl_IsName.go ht _ (by omega))).trans ?_ | refine (impl_IsPoint.ap_of (impl_IsPoint.go ht _)).trans ?_ | refine (impl_IsSimple.ap_of (impl_IsSimple.go ht _ (by omega))).trans ?_ | refine (impl_IsRing.ap_of (impl_IsRing.go ht _ (by omega))).trans ?_); (try dsimp only at h ⊢))
   | (simp only [nr2] at h ⊢)
   | (exfalso; omega))
def impl_DropFrom.Fs : List (Spc env) := [impl_cloneFeature.spec, impl_DropPoint.spec, impl_IsFeature.spec, impl_DropCorner.spec]
def impl_DropFrom.cut : Nat → Option (List (Lv SC)) := lk []
def impl_DropFrom.ret (r0 : S28) (r1 : Bool) : Option (HL eΓ [.st .s28, .b]) := some (r0, r1, ())
def impl_DropFrom.run (k : Nat) (h : HL eΓ [.st .s28, .i .i64]) : Option (HL eΓ [.st .s28, .b]) := evF env impl_DropFrom.Fs Try.f11 impl_DropFrom.cut [.st .s28, .i .i64] [.st .s28, .b] k h
theorem impl_DropFrom.ef (k : Nat) (h0 : S28) (h1 : Int) : impl_DropFrom.run k (h0, h1, ()) = impl_cloneFeature.ap k (⟨h0.f0, h0.f1, h0.f2, h0.f3, h0.f4⟩ : S28) fun r1 => if h0.f1 = 2 then (impl_DropPoint.ap k h0.f4 h1 fun r2_0 r2_1 => if (!r2_1) = true then (impl_cloneFeature.ap k (⟨h0.f0, h0.f1, h0.f2, h0.f3, h0.f4⟩ : S28) fun r3 => impl_DropFrom.ret (⟨r3.f0, r3.f1, r3.f2, r3.f3, r3.f4⟩ : S28) false) else (impl_IsFeature.ap k (⟨r1.f0, r1.f1, r1.f2, r1.f3, r2_0⟩ : S28) fun r4 => if (!r4) = true then (impl_cloneFeature.ap k (⟨h0.f0, h0.f1, h0.f2, h0.f3, h0.f4⟩ : S28) fun r5 => impl_DropFrom.ret (⟨r5.f0, r5.f1, r5.f2, r5.f3, r5.f4⟩ : S28) false) else (impl_DropFrom.ret (⟨r1.f0, r1.f1, r1.f2, r1.f3, r2_0⟩ : S28) true))) else (if h0.f1 = 3 then (impl_DropCorner.ap k h0.f4 h1 fun r6_0 r6_1 => if (!r6_1) = true then (impl_cloneFeature.ap k (⟨h0.f0, h0.f1, h0.f2, h0.f3, h0.f4⟩ : S28) fun r7 => impl_DropFrom.ret (⟨r7.f0, r7.f1, r7.f2, r7.f3, r7.f4⟩ : S28) false) else (impl_IsFeature.ap k (⟨r1.f0, r1.f1, r1.f2, r1.f3, r6_0⟩ : S28) fun r8 => if (!r8) = true then (impl_cloneFeature.ap k (⟨h0.f0, h0.f1, h0.f2, h0.f3, h0.f4⟩ : S28) fun r9 => impl_DropFrom.ret (⟨r9.f0, r9.f1, r9.f2, r9.f3, r9.f4⟩ : S28) false) else (impl_DropFrom.ret (⟨r1.f0, r1.f1, r1.f2, r1.f3, r6_0⟩ : S28) true))) else (impl_cloneFeature.ap k (⟨h0.f0, h0.f1, h0.f2, h0.f3, h0.f4⟩ : S28) fun r10 => impl_DropFrom.ret (⟨r10.f0, r10.f1, r10.f2, r10.f3, r10.f4⟩ : S28) false)) := by kernel_rfl
def impl_DropFrom.toH (t : Int × Int × Int × ByteArray × (List (S77)) × Bool) : HL eΓ [.st .s28, .b] := ((⟨t.1, t.2.1, t.2.2.1, t.2.2.2.1, t.2.2.2.2.1⟩ : S28), t.2.2.2.2.2, ())
def impl_DropFrom.spec : Spc env := ⟨11, [.st .s28, .i .i64], [.st .s28, .b], impl_DropFrom.run⟩
def impl_DropFrom.ap {R : Type} (k : Nat) (h0 : S28) (h1 : Int) (K : S28 → Bool → Option R) : Option R := (impl_DropFrom.run k (h0, h1, ())).bind fun r => K (r.1 : S28) (r.2.1 : Bool)
theorem impl_DropFrom.ap_of {R : Type} {k : Nat} {h0 : S28} {h1 : Int} {r0 : S28} {r1 : Bool} {K : S28 → Bool → Option R} (h : impl_DropFrom.run k (h0, h1, ()) = some (r0, r1, ())) : impl_DropFrom.ap k h0 h1 K = K r0 r1 := by unfold impl_DropFrom.ap; rw [h]; rfl
theorem impl_DropFrom.snd : Snd env impl_DropFrom.spec := evF_snd env_ok (sndC impl_cloneFeature.snd (sndC impl_DropPoint.snd (sndC impl_IsFeature.snd (sndC impl_DropCorner.snd (sndN)))))
attribute [local irreducible] impl_DropFrom.run
theorem impl_DropFrom.rt (a0 : Int) (a1 : Int) (a2 : Int) (a3 : ByteArray) (a4 : List S77) (a5 : Bool) : impl_DropFrom.ret (⟨a0, a1, a2, a3, a4⟩ : S28) a5 = some (impl_DropFrom.toH (a0, a1, a2, a3, a4, a5)) := rfl
theorem impl_DropFrom.go {k : Nat} {a0_0 : Int} {a0_1 : Int} {a0_2 : Int} {a0_3 : ByteArray} {l0_4 : List S77} {a1 : Int} {t} (h : impl_DropFrom.f k a0_0 a0_1 a0_2 a0_3 l0_4 a1 = some t) (K : Nat) (hK : k ≤ K) : impl_DropFrom.run K ((⟨a0_0, a0_1, a0_2, a0_3, l0_4⟩ : S28), a1, ()) = some (impl_DropFrom.toH t) := by
  rw [impl_DropFrom.ef]
  (try dsimp only)
  unfold impl_DropFrom.f at h
  repeat' (with_reducible first
   | exact nos h
   | (cases some_inj h; exact impl_DropFrom.rt _ _ _ _ _ _)
   | ((have q : impl_DropFrom.j0 k _ _ _ _ _ _ _ _ _ _ _ = some _ := h; clear q); rcases k with _ | k <;> simp only [impl_DropFrom.j0, reduceCtorEq] at h)
   | (simp only [Option.bind_some] at h)
   | (refine ite_by h ?_ ?_ <;> (intro hc h; (try simp only [nrm] at hc)))
   | refine itT ?_
   | refine itF ?_
   | (refine bind_by h (fun t ht h => ?_); (first | refine (impl_cloneFeature.ap_of (impl_cloneFeature.go ht _)).trans ?_ | refine (impl_DropPoint.ap_of (impl_DropPoint.go ht _ (by omega))).trans ?_ | refine (impl_IsFeature.ap_of (impl_IsFeature.go ht _ (by omega))).trans ?_ | refine (impl_DropCorner.ap_of (impl_DropCorner.go ht _ (by omega))).trans ?_); (try dsimp only at h ⊢))
   | (simp only [nr2] at h ⊢)
   | (exfalso; omega))
def impl_greatest.Fs : List (Spc env) := [impl_HowMeet.spec]
def impl_greatest.fin : St eΓ → Option (HL eΓ [.i .i64]) := finR env Try.f88.results.toList [.i .i64]
def impl_greatest.cut : Nat → Option (List (Lv SC)) := lk [(3, [⟨1, none, false⟩, ⟨5, none, false⟩, ⟨10, none, false⟩, ⟨11, none, false⟩, ⟨12, none, false⟩]), (6, [⟨1, none, false⟩, ⟨5, none, false⟩, ⟨7, none, false⟩, ⟨10, none, false⟩, ⟨11, none, false⟩, ⟨12, none, false⟩, ⟨16, none, false⟩, ⟨17, none, false⟩, ⟨18, none, false⟩])]
def impl_greatest.ret (r0 : Int) : Option (HL eΓ [.i .i64]) := some (r0, ())
def impl_greatest.p3 (k : Nat) (x5 : Int) (x11 : Int) (x12 : Int) (x1 : List S95) (x10 : List S95) : Option (HL eΓ [.i .i64]) := evM env impl_greatest.Fs Try.f88.ntmps impl_greatest.fin impl_greatest.cut k [.code (sub_ [1, 1, 0, 1, 0, 0, 0] (bodyOf Try.f88)), .code (sub_ [1, 1, 0, 1, 0, 0, 1] (bodyOf Try.f88)), .lp (sub_ [1, 1, 0, 1, 0, 0] (bodyOf Try.f88)), .blk 0, .code (sub_ [1, 1, 1] (bodyOf Try.f88))] (mkSt [(1, .c (.sl 0)), (5, .c (.v (.int .i64 x5))), (10, .c (.sl 1)), (11, .c (.v (.int .i64 x11))), (12, .c (.v (.int .i64 x12)))] [.row .ro 95 (.st .s95) x1, .row .ro 95 (.st .s95) x10])
def impl_greatest.p6 (k : Nat) (x5 : Int) (x11 : Int) (x12 : Int) (x17 : Int) (x18 : Int) (x1 : List S95) (b1_0 : Int) (b1_1 : Int) (b1_2 : Int) (b1_3 : Int) (x10 : List S95) : Option (HL eΓ [.i .i64]) := evM env impl_greatest.Fs Try.f88.ntmps impl_greatest.fin impl_greatest.cut k [.code (sub_ [1, 1, 0, 1, 0, 0, 1, 1, 0, 0, 1, 1, 0, 0, 0] (bodyOf Try.f88)), .code (sub_ [1, 1, 0, 1, 0, 0, 1, 1, 0, 0, 1, 1, 0, 0, 1] (bodyOf Try.f88)), .lp (sub_ [1, 1, 0, 1, 0, 0, 1, 1, 0, 0, 1, 1, 0, 0] (bodyOf Try.f88)), .blk 2, .blk 1, .code (sub_ [1, 1, 0, 1, 0, 0, 1, 1, 1] (bodyOf Try.f88)), .lp (sub_ [1, 1, 0, 1, 0, 0] (bodyOf Try.f88)), .blk 0, .code (sub_ [1, 1, 1] (bodyOf Try.f88))] (mkSt [(1, .c (.sl 0)), (5, .c (.v (.int .i64 x5))), (7, .c (.ptr 1 0)), (10, .c (.sl 2)), (11, .c (.v (.int .i64 x11))), (12, .c (.v (.int .i64 x12))), (16, .c (.sl 0)), (17, .c (.v (.int .i64 x17))), (18, .c (.v (.int .i64 x18)))] [.row .ro 95 (.st .s95) x1, .box 95 [.v (.int .i64 b1_0), .v (.int .i64 b1_1), .v (.int .i64 b1_2), .v (.int .i64 b1_3)], .row .ro 95 (.st .s95) x10])
theorem impl_greatest.e3 (k : Nat) (x5 : Int) (x11 : Int) (x12 : Int) (x1 : List S95) (x10 : List S95) : impl_greatest.p3 (k + 1) x5 x11 x12 x1 x10 = if x12 < x11 then (if 0 ≤ x12 then (if x12 < (x10.length : Int) then (impl_greatest.p6 k x5 x11 x12 (x1.length : Int) 0 x1 ((rd_T95 x10 x12).f0.f0) ((rd_T95 x10 x12).f0.f1) ((rd_T95 x10 x12).f1.f0) ((rd_T95 x10 x12).f1.f1) x10) else none) else none) else (impl_greatest.ret x5) := by kernel_rfl
theorem impl_greatest.e6 (k : Nat) (x5 : Int) (x11 : Int) (x12 : Int) (x17 : Int) (x18 : Int) (x1 : List S95) (b1_0 : Int) (b1_1 : Int) (b1_2 : Int) (b1_3 : Int) (x10 : List S95) : impl_greatest.p6 (k + 1) x5 x11 x12 x17 x18 x1 b1_0 b1_1 b1_2 b1_3 x10 = if x18 < x17 then (if 0 ≤ x18 then (if x18 < (x1.length : Int) then (impl_HowMeet.ap k (⟨(⟨b1_0, b1_1⟩ : S77), (⟨b1_2, b1_3⟩ : S77)⟩ : S95) (⟨(⟨(rd_T95 x1 x18).f0.f0, (rd_T95 x1 x18).f0.f1⟩ : S77), (⟨(rd_T95 x1 x18).f1.f0, (rd_T95 x1 x18).f1.f1⟩ : S77)⟩ : S95) fun r1 => impl_greatest.p6 k (mx x5 r1) x11 x12 x17 (wrap64 (x18 + 1)) x1 b1_0 b1_1 b1_2 b1_3 x10) else none) else none) else (impl_greatest.p3 k x5 x11 (wrap64 (x12 + 1)) x1 x10) := by kernel_rfl
def impl_greatest.run (k : Nat) (h : HL eΓ [.l 95 (.st .s95), .l 95 (.st .s95)]) : Option (HL eΓ [.i .i64]) := evF env impl_greatest.Fs Try.f88 impl_greatest.cut [.l 95 (.st .s95), .l 95 (.st .s95)] [.i .i64] k h
theorem impl_greatest.ef (k : Nat) (h0 : List S95) (h1 : List S95) : impl_greatest.run k (h0, h1, ()) = impl_greatest.p3 k 0 (h0.length : Int) 0 h1 h0 := by kernel_rfl
def impl_greatest.toH (t : Int) : HL eΓ [.i .i64] := (t, ())
def impl_greatest.spec : Spc env := ⟨88, [.l 95 (.st .s95), .l 95 (.st .s95)], [.i .i64], impl_greatest.run⟩
def impl_greatest.ap {R : Type} (k : Nat) (h0 : List S95) (h1 : List S95) (K : Int → Option R) : Option R := (impl_greatest.run k (h0, h1, ())).bind fun r => K (r.1 : Int)
theorem impl_greatest.ap_of {R : Type} {k : Nat} {h0 : List S95} {h1 : List S95} {r0 : Int} {K : Int → Option R} (h : impl_greatest.run k (h0, h1, ()) = some (r0, ())) : impl_greatest.ap k h0 h1 K = K r0 := by unfold impl_greatest.ap; rw [h]; rfl
theorem impl_greatest.snd : Snd env impl_greatest.spec := evF_snd env_ok (sndC impl_HowMeet.snd (sndN))
attribute [local irreducible] impl_greatest.run
theorem impl_greatest.rt (a0 : Int) : impl_greatest.ret a0 = some (impl_greatest.toH (a0)) := rfl
theorem impl_greatest.br (n : Nat) : (∀ K, n ≤ K → ∀ (x5 : Int) (x11 : Int) (x12 : Int) (x1 : List S95) (x10 : List S95) t, impl_greatest.l0 n x1 x5 x10 x11 x12 = some t → impl_greatest.p3 K x5 x11 x12 x1 x10 = some (impl_greatest.toH t)) ∧ (∀ K, n ≤ K → ∀ (x5 : Int) (x11 : Int) (x12 : Int) (x17 : Int) (x18 : Int) (x1 : List S95) (b1_0 : Int) (b1_1 : Int) (b1_2 : Int) (b1_3 : Int) (x10 : List S95) t, impl_greatest.l1 n x1 x5 x10 x11 x12 x1 x17 x18 b1_0 b1_1 b1_2 b1_3 = some t → impl_greatest.p6 K x5 x11 x12 x17 x18 x1 b1_0 b1_1 b1_2 b1_3 x10 = some (impl_greatest.toH t)) := by
  induction n using Nat.strongRecOn with
  | _ n ih =>
  refine ⟨fun K hK x5 x11 x12 x1 x10 t h => ?_, fun K hK x5 x11 x12 x17 x18 x1 b1_0 b1_1 b1_2 b1_3 x10 t h => ?_⟩
  all_goals (rcases n with _ | k)
  all_goals (try (exact nos h))
  all_goals (obtain ⟨K, rfl⟩ : ∃ q, K = q + 1 := ⟨K - 1, by omega⟩)
  all_goals (first | rw [impl_greatest.e3] | rw [impl_greatest.e6])
  all_goals (simp only [impl_greatest.l0, impl_greatest.l1] at h)
  repeat' (with_reducible first
   | exact nos h
   | (cases some_inj h; exact impl_greatest.rt _)
   | exact (ih _ (by omega)).1 _ (by omega) _ _ _ _ _ _ h
   | exact (ih _ (by omega)).2 _ (by omega) _ _ _ _ _ _ _ _ _ _ _ _ h
   | (simp only [Option.bind_some] at h)
   | (refine ite_by h ?_ ?_ <;> (intro hc h; (try simp only [nrm] at hc)))
   | refine itT ?_
   | refine itF ?_
   | (refine bind_by h (fun t ht h => ?_); refine (impl_HowMeet.ap_of (impl_HowMeet.go ht _ (by omega))).trans ?_; (try dsimp only at h ⊢))
   | (simp only [nr2] at h ⊢)
   | (exfalso; omega))
theorem impl_greatest.go {k : Nat} {l0 : List S95} {l1 : List S95} {t} (h : impl_greatest.f k l0 l1 = some t) (K : Nat) (hK : k ≤ K) : impl_greatest.run K (l0, l1, ()) = some (impl_greatest.toH t) := by
  rw [impl_greatest.ef]
  (try dsimp only)
  unfold impl_greatest.f at h
  repeat' (with_reducible first
   | exact nos h
   | (cases some_inj h; exact impl_greatest.rt _)
   | exact (impl_greatest.br _).1 _ (by omega) _ _ _ _ _ _ h
   | exact (impl_greatest.br _).2 _ (by omega) _ _ _ _ _ _ _ _ _ _ _ _ h
   | (simp only [Option.bind_some] at h)
   | (refine ite_by h ?_ ?_ <;> (intro hc h; (try simp only [nrm] at hc)))
   | refine itT ?_
   | refine itF ?_
   | (refine bind_by h (fun t ht h => ?_); refine (impl_HowMeet.ap_of (impl_HowMeet.go ht _ (by omega))).trans ?_; (try dsimp only at h ⊢))
   | (simp only [nr2] at h ⊢)
   | (exfalso; omega))
def impl_PartsOf.Fs : List (Spc env) := [impl_IsFeature.spec, impl_SegmentsOf.spec, impl_RingSegments.spec]
def impl_PartsOf.cut : Nat → Option (List (Lv SC)) := lk []
def impl_PartsOf.ret (r0 : List S95) : Option (HL eΓ [.l 95 (.st .s95)]) := some (r0, ())
def impl_PartsOf.run (k : Nat) (h : HL eΓ [.st .s28]) : Option (HL eΓ [.l 95 (.st .s95)]) := evF env impl_PartsOf.Fs Try.f89 impl_PartsOf.cut [.st .s28] [.l 95 (.st .s95)] k h
theorem impl_PartsOf.ef (k : Nat) (h0 : S28) : impl_PartsOf.run k (h0, ()) = impl_IsFeature.ap k (⟨h0.f0, h0.f1, h0.f2, h0.f3, h0.f4⟩ : S28) fun r1 => if r1 = true then (if h0.f1 = 2 then (impl_SegmentsOf.ap k h0.f4 fun r2 => impl_PartsOf.ret r2) else (if h0.f1 = 3 then (impl_RingSegments.ap k h0.f4 fun r3 => impl_PartsOf.ret r3) else (impl_PartsOf.ret ([] : List S95)))) else (impl_PartsOf.ret ([] : List S95)) := by kernel_rfl
def impl_PartsOf.toH (t : (List (S95))) : HL eΓ [.l 95 (.st .s95)] := (t, ())
def impl_PartsOf.spec : Spc env := ⟨89, [.st .s28], [.l 95 (.st .s95)], impl_PartsOf.run⟩
def impl_PartsOf.ap {R : Type} (k : Nat) (h0 : S28) (K : (List S95) → Option R) : Option R := (impl_PartsOf.run k (h0, ())).bind fun r => K (r.1 : List S95)
theorem impl_PartsOf.ap_of {R : Type} {k : Nat} {h0 : S28} {r0 : List S95} {K : (List S95) → Option R} (h : impl_PartsOf.run k (h0, ()) = some (r0, ())) : impl_PartsOf.ap k h0 K = K r0 := by unfold impl_PartsOf.ap; rw [h]; rfl
theorem impl_PartsOf.snd : Snd env impl_PartsOf.spec := evF_snd env_ok (sndC impl_IsFeature.snd (sndC impl_SegmentsOf.snd (sndC impl_RingSegments.snd (sndN))))
attribute [local irreducible] impl_PartsOf.run
theorem impl_PartsOf.rt (a0 : List S95) : impl_PartsOf.ret a0 = some (impl_PartsOf.toH (a0)) := rfl
theorem impl_PartsOf.go {k : Nat} {a0_0 : Int} {a0_1 : Int} {a0_2 : Int} {a0_3 : ByteArray} {l0_4 : List S77} {t} (h : impl_PartsOf.f k a0_0 a0_1 a0_2 a0_3 l0_4 = some t) (K : Nat) (hK : k ≤ K) : impl_PartsOf.run K ((⟨a0_0, a0_1, a0_2, a0_3, l0_4⟩ : S28), ()) = some (impl_PartsOf.toH t) := by
  rw [impl_PartsOf.ef]
  (try dsimp only)
  unfold impl_PartsOf.f at h
  repeat' (with_reducible first
   | exact nos h
   | (cases some_inj h; exact impl_PartsOf.rt _)
   | (simp only [Option.bind_some] at h)
   | (refine ite_by h ?_ ?_ <;> (intro hc h; (try simp only [nrm] at hc)))
   | refine itT ?_
   | refine itF ?_
   | (refine bind_by h (fun t ht h => ?_); (first | refine (impl_IsFeature.ap_of (impl_IsFeature.go ht _ (by omega))).trans ?_ | refine (impl_SegmentsOf.ap_of (impl_SegmentsOf.go ht _ (by omega))).trans ?_ | refine (impl_RingSegments.ap_of (impl_RingSegments.go ht _ (by omega))).trans ?_); (try dsimp only at h ⊢))
   | (simp only [nr2] at h ⊢)
   | (exfalso; omega))
def impl_FeaturesMeet.Fs : List (Spc env) := [impl_PartsOf.spec, impl_greatest.spec]
def impl_FeaturesMeet.cut : Nat → Option (List (Lv SC)) := lk []
def impl_FeaturesMeet.ret (r0 : Int) : Option (HL eΓ [.i .i64]) := some (r0, ())
def impl_FeaturesMeet.run (k : Nat) (h : HL eΓ [.st .s28, .st .s28]) : Option (HL eΓ [.i .i64]) := evF env impl_FeaturesMeet.Fs Try.f50 impl_FeaturesMeet.cut [.st .s28, .st .s28] [.i .i64] k h
theorem impl_FeaturesMeet.ef (k : Nat) (h0 : S28) (h1 : S28) : impl_FeaturesMeet.run k (h0, h1, ()) = impl_PartsOf.ap k (⟨h0.f0, h0.f1, h0.f2, h0.f3, h0.f4⟩ : S28) fun r1 => impl_PartsOf.ap k (⟨h1.f0, h1.f1, h1.f2, h1.f3, h1.f4⟩ : S28) fun r2 => impl_greatest.ap k r1 r2 fun r3 => impl_FeaturesMeet.ret r3 := by kernel_rfl
def impl_FeaturesMeet.toH (t : Int) : HL eΓ [.i .i64] := (t, ())
def impl_FeaturesMeet.spec : Spc env := ⟨50, [.st .s28, .st .s28], [.i .i64], impl_FeaturesMeet.run⟩
def impl_FeaturesMeet.ap {R : Type} (k : Nat) (h0 : S28) (h1 : S28) (K : Int → Option R) : Option R := (impl_FeaturesMeet.run k (h0, h1, ())).bind fun r => K (r.1 : Int)
theorem impl_FeaturesMeet.ap_of {R : Type} {k : Nat} {h0 : S28} {h1 : S28} {r0 : Int} {K : Int → Option R} (h : impl_FeaturesMeet.run k (h0, h1, ()) = some (r0, ())) : impl_FeaturesMeet.ap k h0 h1 K = K r0 := by unfold impl_FeaturesMeet.ap; rw [h]; rfl
theorem impl_FeaturesMeet.snd : Snd env impl_FeaturesMeet.spec := evF_snd env_ok (sndC impl_PartsOf.snd (sndC impl_greatest.snd (sndN)))
attribute [local irreducible] impl_FeaturesMeet.run
theorem impl_FeaturesMeet.rt (a0 : Int) : impl_FeaturesMeet.ret a0 = some (impl_FeaturesMeet.toH (a0)) := rfl
theorem impl_FeaturesMeet.go {k : Nat} {a0_0 : Int} {a0_1 : Int} {a0_2 : Int} {a0_3 : ByteArray} {l0_4 : List S77} {a1_0 : Int} {a1_1 : Int} {a1_2 : Int} {a1_3 : ByteArray} {l1_4 : List S77} {t} (h : impl_FeaturesMeet.f k a0_0 a0_1 a0_2 a0_3 l0_4 a1_0 a1_1 a1_2 a1_3 l1_4 = some t) (K : Nat) (hK : k ≤ K) : impl_FeaturesMeet.run K ((⟨a0_0, a0_1, a0_2, a0_3, l0_4⟩ : S28), (⟨a1_0, a1_1, a1_2, a1_3, l1_4⟩ : S28), ()) = some (impl_FeaturesMeet.toH t) := by
  rw [impl_FeaturesMeet.ef]
  (try dsimp only)
  unfold impl_FeaturesMeet.f at h
  repeat' (with_reducible first
   | exact nos h
   | (cases some_inj h; exact impl_FeaturesMeet.rt _)
   | (simp only [Option.bind_some] at h)
   | (refine ite_by h ?_ ?_ <;> (intro hc h; (try simp only [nrm] at hc)))
   | refine itT ?_
   | refine itF ?_
   | (refine bind_by h (fun t ht h => ?_); (first | refine (impl_PartsOf.ap_of (impl_PartsOf.go ht _ (by omega))).trans ?_ | refine (impl_greatest.ap_of (impl_greatest.go ht _ (by omega))).trans ?_); (try dsimp only at h ⊢))
   | (simp only [nr2] at h ⊢)
   | (exfalso; omega))
def impl_CanShrink.Fs : List (Spc env) := [impl_DropFrom.spec, impl_FeaturesMeet.spec]
def impl_CanShrink.fin : St eΓ → Option (HL eΓ [.b]) := finR env Try.f18.results.toList [.b]
def impl_CanShrink.cut : Nat → Option (List (Lv SC)) := lk [(5, [⟨3, none, false⟩, ⟨7, none, false⟩, ⟨19, none, false⟩, ⟨20, none, false⟩, ⟨21, none, false⟩])]
def impl_CanShrink.ret (r0 : Bool) : Option (HL eΓ [.b]) := some (r0, ())
def impl_CanShrink.p5 (k : Nat) (x20 : Int) (x21 : Int) (b0_0 : Int) (b0_1 : Int) (b0_2 : Int) (b0_3 : ByteArray) (b1_0 : Int) (b1_1 : Int) (b1_2 : Int) (b1_3 : ByteArray) (x19 : List S28) (b3 : List S77) (b4 : List S77) : Option (HL eΓ [.b]) := evM env impl_CanShrink.Fs Try.f18.ntmps impl_CanShrink.fin impl_CanShrink.cut k [.code (sub_ [1, 1, 1, 0, 1, 0, 0, 0] (bodyOf Try.f18)), .code (sub_ [1, 1, 1, 0, 1, 0, 0, 1] (bodyOf Try.f18)), .lp (sub_ [1, 1, 1, 0, 1, 0, 0] (bodyOf Try.f18)), .blk 0, .code (sub_ [1, 1, 1, 1] (bodyOf Try.f18))] (mkSt [(3, .c (.ptr 0 0)), (7, .c (.ptr 1 0)), (19, .c (.sl 2)), (20, .c (.v (.int .i64 x20))), (21, .c (.v (.int .i64 x21)))] [.box 28 [.v (.int .i64 b0_0), .v (.int .i64 b0_1), .v (.int .i64 b0_2), .v (.string b0_3), .sl 3], .box 28 [.v (.int .i64 b1_0), .v (.int .i64 b1_1), .v (.int .i64 b1_2), .v (.string b1_3), .sl 4], .row .ro 28 (.st .s28) x19, .row .ro 77 (.st .s77) b3, .row .own 77 (.st .s77) b4])
theorem impl_CanShrink.e5 (k : Nat) (x20 : Int) (x21 : Int) (b0_0 : Int) (b0_1 : Int) (b0_2 : Int) (b0_3 : ByteArray) (b1_0 : Int) (b1_1 : Int) (b1_2 : Int) (b1_3 : ByteArray) (x19 : List S28) (b3 : List S77) (b4 : List S77) : impl_CanShrink.p5 (k + 1) x20 x21 b0_0 b0_1 b0_2 b0_3 b1_0 b1_1 b1_2 b1_3 x19 b3 b4 = if x21 < x20 then (if 0 ≤ x21 then (if x21 < (x19.length : Int) then (impl_FeaturesMeet.ap k (⟨b1_0, b1_1, b1_2, b1_3, b4⟩ : S28) (⟨(rd_T28 x19 x21).f0, (rd_T28 x19 x21).f1, (rd_T28 x19 x21).f2, (rd_T28 x19 x21).f3, (rd_T28 x19 x21).f4⟩ : S28) fun r1 => impl_FeaturesMeet.ap k (⟨b0_0, b0_1, b0_2, b0_3, b3⟩ : S28) (⟨(rd_T28 x19 x21).f0, (rd_T28 x19 x21).f1, (rd_T28 x19 x21).f2, (rd_T28 x19 x21).f3, (rd_T28 x19 x21).f4⟩ : S28) fun r2 => if r1 > r2 then (impl_CanShrink.ret false) else (impl_CanShrink.p5 k x20 (wrap64 (x21 + 1)) b0_0 b0_1 b0_2 b0_3 b1_0 b1_1 b1_2 b1_3 x19 b3 b4)) else none) else none) else (impl_CanShrink.ret true) := by kernel_rfl
def impl_CanShrink.run (k : Nat) (h : HL eΓ [.st .s28, .i .i64, .l 28 (.st .s28)]) : Option (HL eΓ [.b]) := evF env impl_CanShrink.Fs Try.f18 impl_CanShrink.cut [.st .s28, .i .i64, .l 28 (.st .s28)] [.b] k h
theorem impl_CanShrink.ef (k : Nat) (h0 : S28) (h1 : Int) (h2 : List S28) : impl_CanShrink.run k (h0, h1, h2, ()) = impl_DropFrom.ap k (⟨h0.f0, h0.f1, h0.f2, h0.f3, h0.f4⟩ : S28) h1 fun r1_0 r1_1 => if (!r1_1) = true then (impl_CanShrink.ret false) else (impl_CanShrink.p5 k (h2.length : Int) 0 h0.f0 h0.f1 h0.f2 h0.f3 r1_0.f0 r1_0.f1 r1_0.f2 r1_0.f3 h2 h0.f4 r1_0.f4) := by kernel_rfl
def impl_CanShrink.toH (t : Bool) : HL eΓ [.b] := (t, ())
def impl_CanShrink.spec : Spc env := ⟨18, [.st .s28, .i .i64, .l 28 (.st .s28)], [.b], impl_CanShrink.run⟩
def impl_CanShrink.ap {R : Type} (k : Nat) (h0 : S28) (h1 : Int) (h2 : List S28) (K : Bool → Option R) : Option R := (impl_CanShrink.run k (h0, h1, h2, ())).bind fun r => K (r.1 : Bool)
theorem impl_CanShrink.ap_of {R : Type} {k : Nat} {h0 : S28} {h1 : Int} {h2 : List S28} {r0 : Bool} {K : Bool → Option R} (h : impl_CanShrink.run k (h0, h1, h2, ()) = some (r0, ())) : impl_CanShrink.ap k h0 h1 h2 K = K r0 := by unfold impl_CanShrink.ap; rw [h]; rfl
theorem impl_CanShrink.snd : Snd env impl_CanShrink.spec := evF_snd env_ok (sndC impl_DropFrom.snd (sndC impl_FeaturesMeet.snd (sndN)))
attribute [local irreducible] impl_CanShrink.run
theorem impl_CanShrink.rt (a0 : Bool) : impl_CanShrink.ret a0 = some (impl_CanShrink.toH (a0)) := rfl
theorem impl_CanShrink.br (n : Nat) : (∀ K, n ≤ K → ∀ (x20 : Int) (x21 : Int) (b0_0 : Int) (b0_1 : Int) (b0_2 : Int) (b0_3 : ByteArray) (b1_0 : Int) (b1_1 : Int) (b1_2 : Int) (b1_3 : ByteArray) (x19 : List S28) (b3 : List S77) (b4 : List S77) t, impl_CanShrink.l0 n x19 x20 x21 b0_0 b0_1 b0_2 b0_3 b3 b1_0 b1_1 b1_2 b1_3 b4 = some t → impl_CanShrink.p5 K x20 x21 b0_0 b0_1 b0_2 b0_3 b1_0 b1_1 b1_2 b1_3 x19 b3 b4 = some (impl_CanShrink.toH t)) := by
  induction n using Nat.strongRecOn with
  | _ n ih =>
  intro K hK x20 x21 b0_0 b0_1 b0_2 b0_3 b1_0 b1_1 b1_2 b1_3 x19 b3 b4 t h
  all_goals (rcases n with _ | k)
  all_goals (try (exact nos h))
  all_goals (obtain ⟨K, rfl⟩ : ∃ q, K = q + 1 := ⟨K - 1, by omega⟩)
  all_goals (first | rw [impl_CanShrink.e5])
  all_goals (simp only [impl_CanShrink.l0] at h)
  repeat' (with_reducible first
   | exact nos h
   | (cases some_inj h; exact impl_CanShrink.rt _)
   | exact (ih _ (by omega)) _ (by omega) _ _ _ _ _ _ _ _ _ _ _ _ _ _ h
   | (simp only [Option.bind_some] at h)
   | (refine ite_by h ?_ ?_ <;> (intro hc h; (try simp only [nrm] at hc)))
   | refine itT ?_
   | refine itF ?_
   | (refine bind_by h (fun t ht h => ?_); (first | refine (impl_DropFrom.ap_of (impl_DropFrom.go ht _ (by omega))).trans ?_ | refine (impl_FeaturesMeet.ap_of (impl_FeaturesMeet.go ht _ (by omega))).trans ?_); (try dsimp only at h ⊢))
   | (simp only [nr2] at h ⊢)
   | (exfalso; omega))
theorem impl_CanShrink.go {k : Nat} {a0_0 : Int} {a0_1 : Int} {a0_2 : Int} {a0_3 : ByteArray} {l0_4 : List S77} {a1 : Int} {l2 : List S28} {t} (h : impl_CanShrink.f k a0_0 a0_1 a0_2 a0_3 l0_4 a1 l2 = some t) (K : Nat) (hK : k ≤ K) : impl_CanShrink.run K ((⟨a0_0, a0_1, a0_2, a0_3, l0_4⟩ : S28), a1, l2, ()) = some (impl_CanShrink.toH t) := by
  rw [impl_CanShrink.ef]
  (try dsimp only)
  unfold impl_CanShrink.f at h
  repeat' (with_reducible first
   | exact nos h
   | (cases some_inj h; exact impl_CanShrink.rt _)
   | exact (impl_CanShrink.br _) _ (by omega) _ _ _ _ _ _ _ _ _ _ _ _ _ _ h
   | (simp only [Option.bind_some] at h)
   | (refine ite_by h ?_ ?_ <;> (intro hc h; (try simp only [nrm] at hc)))
   | refine itT ?_
   | refine itF ?_
   | (refine bind_by h (fun t ht h => ?_); (first | refine (impl_DropFrom.ap_of (impl_DropFrom.go ht _ (by omega))).trans ?_ | refine (impl_FeaturesMeet.ap_of (impl_FeaturesMeet.go ht _ (by omega))).trans ?_); (try dsimp only at h ⊢))
   | (simp only [nr2] at h ⊢)
   | (exfalso; omega))
def impl_twice.Fs : List (Spc env) := [impl_cross.spec]
def impl_twice.cut : Nat → Option (List (Lv SC)) := lk []
def impl_twice.ret (r0 : Int) : Option (HL eΓ [.i .i64]) := some (r0, ())
def impl_twice.run (k : Nat) (h : HL eΓ [.st .s77, .st .s77, .st .s77]) : Option (HL eΓ [.i .i64]) := evF env impl_twice.Fs Try.f99 impl_twice.cut [.st .s77, .st .s77, .st .s77] [.i .i64] k h
theorem impl_twice.ef (k : Nat) (h0 : S77) (h1 : S77) (h2 : S77) : impl_twice.run k (h0, h1, h2, ()) = impl_cross.ap k (⟨h0.f0, h0.f1⟩ : S77) (⟨h1.f0, h1.f1⟩ : S77) (⟨h2.f0, h2.f1⟩ : S77) fun r1 => impl_twice.ret (mx r1 (wrap64 (0 - r1))) := by kernel_rfl
def impl_twice.toH (t : Int) : HL eΓ [.i .i64] := (t, ())
def impl_twice.spec : Spc env := ⟨99, [.st .s77, .st .s77, .st .s77], [.i .i64], impl_twice.run⟩
def impl_twice.ap {R : Type} (k : Nat) (h0 : S77) (h1 : S77) (h2 : S77) (K : Int → Option R) : Option R := (impl_twice.run k (h0, h1, h2, ())).bind fun r => K (r.1 : Int)
theorem impl_twice.ap_of {R : Type} {k : Nat} {h0 : S77} {h1 : S77} {h2 : S77} {r0 : Int} {K : Int → Option R} (h : impl_twice.run k (h0, h1, h2, ()) = some (r0, ())) : impl_twice.ap k h0 h1 h2 K = K r0 := by unfold impl_twice.ap; rw [h]; rfl
theorem impl_twice.snd : Snd env impl_twice.spec := evF_snd env_ok (sndC impl_cross.snd (sndN))
attribute [local irreducible] impl_twice.run
theorem impl_twice.rt (a0 : Int) : impl_twice.ret a0 = some (impl_twice.toH (a0)) := rfl
theorem impl_twice.go {a0_0 : Int} {a0_1 : Int} {a1_0 : Int} {a1_1 : Int} {a2_0 : Int} {a2_1 : Int} {t} (h : impl_twice.f a0_0 a0_1 a1_0 a1_1 a2_0 a2_1 = some t) (K : Nat) : impl_twice.run K ((⟨a0_0, a0_1⟩ : S77), (⟨a1_0, a1_1⟩ : S77), (⟨a2_0, a2_1⟩ : S77), ()) = some (impl_twice.toH t) := by
  rw [impl_twice.ef]
  (try dsimp only)
  unfold impl_twice.f at h
  repeat' (with_reducible first
   | exact nos h
   | (cases some_inj h; exact impl_twice.rt _)
   | (simp only [Option.bind_some] at h)
   | (refine ite_by h ?_ ?_ <;> (intro hc h; (try simp only [nrm] at hc)))
   | refine itT ?_
   | refine itF ?_
   | (refine bind_by h (fun t ht h => ?_); refine (impl_cross.ap_of (impl_cross.go ht _)).trans ?_; (try dsimp only at h ⊢))
   | (simp only [nr2, Int.zero_sub] at h ⊢)
   | (exfalso; omega))
def impl_CornerArea.Fs : List (Spc env) := [impl_IsLine.spec, impl_InRange.spec, impl_twice.spec]
def impl_CornerArea.cut : Nat → Option (List (Lv SC)) := lk []
def impl_CornerArea.ret (r0 : Int) : Option (HL eΓ [.i .i64]) := some (r0, ())
def impl_CornerArea.run (k : Nat) (h : HL eΓ [.l 77 (.st .s77), .i .i64]) : Option (HL eΓ [.i .i64]) := evF env impl_CornerArea.Fs Try.f64 impl_CornerArea.cut [.l 77 (.st .s77), .i .i64] [.i .i64] k h
theorem impl_CornerArea.ef (k : Nat) (h0 : List S77) (h1 : Int) : impl_CornerArea.run k (h0, h1, ()) = impl_IsLine.ap k h0 fun r1 => if (!r1) = true then (impl_CornerArea.ret (-1)) else (impl_InRange.ap k h1 1 (wrap64 ((h0.length : Int) - 2)) fun r2 => if (!r2) = true then (impl_CornerArea.ret (-1)) else (if 0 ≤ (wrap64 (h1 - 1)) then (if (wrap64 (h1 - 1)) < (h0.length : Int) then (if 0 ≤ h1 then (if h1 < (h0.length : Int) then (if 0 ≤ (wrap64 (h1 + 1)) then (if (wrap64 (h1 + 1)) < (h0.length : Int) then (impl_twice.ap k (⟨(rd_T77 h0 (wrap64 (h1 - 1))).f0, (rd_T77 h0 (wrap64 (h1 - 1))).f1⟩ : S77) (⟨(rd_T77 h0 h1).f0, (rd_T77 h0 h1).f1⟩ : S77) (⟨(rd_T77 h0 (wrap64 (h1 + 1))).f0, (rd_T77 h0 (wrap64 (h1 + 1))).f1⟩ : S77) fun r3 => impl_CornerArea.ret r3) else none) else none) else none) else none) else none) else none)) := by kernel_rfl
def impl_CornerArea.toH (t : Int) : HL eΓ [.i .i64] := (t, ())
def impl_CornerArea.spec : Spc env := ⟨64, [.l 77 (.st .s77), .i .i64], [.i .i64], impl_CornerArea.run⟩
def impl_CornerArea.ap {R : Type} (k : Nat) (h0 : List S77) (h1 : Int) (K : Int → Option R) : Option R := (impl_CornerArea.run k (h0, h1, ())).bind fun r => K (r.1 : Int)
theorem impl_CornerArea.ap_of {R : Type} {k : Nat} {h0 : List S77} {h1 : Int} {r0 : Int} {K : Int → Option R} (h : impl_CornerArea.run k (h0, h1, ()) = some (r0, ())) : impl_CornerArea.ap k h0 h1 K = K r0 := by unfold impl_CornerArea.ap; rw [h]; rfl
theorem impl_CornerArea.snd : Snd env impl_CornerArea.spec := evF_snd env_ok (sndC impl_IsLine.snd (sndC impl_InRange.snd (sndC impl_twice.snd (sndN))))
attribute [local irreducible] impl_CornerArea.run
theorem impl_CornerArea.rt (a0 : Int) : impl_CornerArea.ret a0 = some (impl_CornerArea.toH (a0)) := rfl
theorem impl_CornerArea.go {k : Nat} {l0 : List S77} {a1 : Int} {t} (h : impl_CornerArea.f k l0 a1 = some t) (K : Nat) (hK : k ≤ K) : impl_CornerArea.run K (l0, a1, ()) = some (impl_CornerArea.toH t) := by
  rw [impl_CornerArea.ef]
  (try dsimp only)
  unfold impl_CornerArea.f at h
  repeat' (with_reducible first
   | exact nos h
   | (cases some_inj h; exact impl_CornerArea.rt _)
   | (simp only [Option.bind_some] at h)
   | (refine ite_by h ?_ ?_ <;> (intro hc h; (try simp only [nrm] at hc)))
   | refine itT ?_
   | refine itF ?_
   | (refine bind_by h (fun t ht h => ?_); (first | refine (impl_IsLine.ap_of (impl_IsLine.go ht _ (by omega))).trans ?_ | refine (impl_InRange.ap_of (impl_InRange.go ht _)).trans ?_ | refine (impl_twice.ap_of (impl_twice.go ht _)).trans ?_); (try dsimp only at h ⊢))
   | (simp only [nr2, Int.zero_sub] at h ⊢)
   | (exfalso; omega))
def impl_CornerSize.Fs : List (Spc env) := [impl_IsRing.spec, impl_InRange.spec, impl_twice.spec]
def impl_CornerSize.cut : Nat → Option (List (Lv SC)) := lk []
def impl_CornerSize.ret (r0 : Int) : Option (HL eΓ [.i .i64]) := some (r0, ())
def impl_CornerSize.run (k : Nat) (h : HL eΓ [.l 77 (.st .s77), .i .i64]) : Option (HL eΓ [.i .i64]) := evF env impl_CornerSize.Fs Try.f65 impl_CornerSize.cut [.l 77 (.st .s77), .i .i64] [.i .i64] k h
theorem impl_CornerSize.ef (k : Nat) (h0 : List S77) (h1 : Int) : impl_CornerSize.run k (h0, h1, ()) = impl_IsRing.ap k h0 fun r1 => if (!r1) = true then (impl_CornerSize.ret (-1)) else (impl_InRange.ap k h1 0 (wrap64 ((h0.length : Int) - 1)) fun r2 => if (!r2) = true then (impl_CornerSize.ret (-1)) else (if (h0.length : Int) = 0 then none else (if 0 ≤ (Int.tmod (wrap64 ((wrap64 (h1 + (h0.length : Int))) - 1)) (h0.length : Int)) then (if (Int.tmod (wrap64 ((wrap64 (h1 + (h0.length : Int))) - 1)) (h0.length : Int)) < (h0.length : Int) then (if 0 ≤ h1 then (if h1 < (h0.length : Int) then (if (h0.length : Int) = 0 then none else (if 0 ≤ (Int.tmod (wrap64 (h1 + 1)) (h0.length : Int)) then (if (Int.tmod (wrap64 (h1 + 1)) (h0.length : Int)) < (h0.length : Int) then (impl_twice.ap k (⟨(rd_T77 h0 (Int.tmod (wrap64 ((wrap64 (h1 + (h0.length : Int))) - 1)) (h0.length : Int))).f0, (rd_T77 h0 (Int.tmod (wrap64 ((wrap64 (h1 + (h0.length : Int))) - 1)) (h0.length : Int))).f1⟩ : S77) (⟨(rd_T77 h0 h1).f0, (rd_T77 h0 h1).f1⟩ : S77) (⟨(rd_T77 h0 (Int.tmod (wrap64 (h1 + 1)) (h0.length : Int))).f0, (rd_T77 h0 (Int.tmod (wrap64 (h1 + 1)) (h0.length : Int))).f1⟩ : S77) fun r3 => impl_CornerSize.ret r3) else none) else none)) else none) else none) else none) else none))) := by kernel_rfl
def impl_CornerSize.toH (t : Int) : HL eΓ [.i .i64] := (t, ())
def impl_CornerSize.spec : Spc env := ⟨65, [.l 77 (.st .s77), .i .i64], [.i .i64], impl_CornerSize.run⟩
def impl_CornerSize.ap {R : Type} (k : Nat) (h0 : List S77) (h1 : Int) (K : Int → Option R) : Option R := (impl_CornerSize.run k (h0, h1, ())).bind fun r => K (r.1 : Int)
theorem impl_CornerSize.ap_of {R : Type} {k : Nat} {h0 : List S77} {h1 : Int} {r0 : Int} {K : Int → Option R} (h : impl_CornerSize.run k (h0, h1, ()) = some (r0, ())) : impl_CornerSize.ap k h0 h1 K = K r0 := by unfold impl_CornerSize.ap; rw [h]; rfl
theorem impl_CornerSize.snd : Snd env impl_CornerSize.spec := evF_snd env_ok (sndC impl_IsRing.snd (sndC impl_InRange.snd (sndC impl_twice.snd (sndN))))
attribute [local irreducible] impl_CornerSize.run
theorem impl_CornerSize.rt (a0 : Int) : impl_CornerSize.ret a0 = some (impl_CornerSize.toH (a0)) := rfl
theorem impl_CornerSize.go {k : Nat} {l0 : List S77} {a1 : Int} {t} (h : impl_CornerSize.f k l0 a1 = some t) (K : Nat) (hK : k ≤ K) : impl_CornerSize.run K (l0, a1, ()) = some (impl_CornerSize.toH t) := by
  rw [impl_CornerSize.ef]
  (try dsimp only)
  unfold impl_CornerSize.f at h
  repeat' (with_reducible first
   | exact nos h
   | (cases some_inj h; exact impl_CornerSize.rt _)
   | (simp only [Option.bind_some] at h)
   | (refine ite_by h ?_ ?_ <;> (intro hc h; (try simp only [nrm] at hc)))
   | refine itT ?_
   | refine itF ?_
   | (refine bind_by h (fun t ht h => ?_); (first | refine (impl_IsRing.ap_of (impl_IsRing.go ht _ (by omega))).trans ?_ | refine (impl_InRange.ap_of (impl_InRange.go ht _)).trans ?_ | refine (impl_twice.ap_of (impl_twice.go ht _)).trans ?_); (try dsimp only at h ⊢))
   | (simp only [nr2, Int.zero_sub] at h ⊢)
   | (exfalso; omega))
def impl_SizeAt.Fs : List (Spc env) := [impl_CornerArea.spec, impl_CornerSize.spec]
def impl_SizeAt.cut : Nat → Option (List (Lv SC)) := lk []
def impl_SizeAt.ret (r0 : Int) : Option (HL eΓ [.i .i64]) := some (r0, ())
def impl_SizeAt.run (k : Nat) (h : HL eΓ [.st .s28, .i .i64]) : Option (HL eΓ [.i .i64]) := evF env impl_SizeAt.Fs Try.f35 impl_SizeAt.cut [.st .s28, .i .i64] [.i .i64] k h
theorem impl_SizeAt.ef (k : Nat) (h0 : S28) (h1 : Int) : impl_SizeAt.run k (h0, h1, ()) = if h0.f1 = 2 then (impl_CornerArea.ap k h0.f4 h1 fun r1 => impl_SizeAt.ret r1) else (if h0.f1 = 3 then (impl_CornerSize.ap k h0.f4 h1 fun r2 => impl_SizeAt.ret r2) else (impl_SizeAt.ret (-1))) := by kernel_rfl
def impl_SizeAt.toH (t : Int) : HL eΓ [.i .i64] := (t, ())
def impl_SizeAt.spec : Spc env := ⟨35, [.st .s28, .i .i64], [.i .i64], impl_SizeAt.run⟩
def impl_SizeAt.ap {R : Type} (k : Nat) (h0 : S28) (h1 : Int) (K : Int → Option R) : Option R := (impl_SizeAt.run k (h0, h1, ())).bind fun r => K (r.1 : Int)
theorem impl_SizeAt.ap_of {R : Type} {k : Nat} {h0 : S28} {h1 : Int} {r0 : Int} {K : Int → Option R} (h : impl_SizeAt.run k (h0, h1, ()) = some (r0, ())) : impl_SizeAt.ap k h0 h1 K = K r0 := by unfold impl_SizeAt.ap; rw [h]; rfl
theorem impl_SizeAt.snd : Snd env impl_SizeAt.spec := evF_snd env_ok (sndC impl_CornerArea.snd (sndC impl_CornerSize.snd (sndN)))
attribute [local irreducible] impl_SizeAt.run
theorem impl_SizeAt.rt (a0 : Int) : impl_SizeAt.ret a0 = some (impl_SizeAt.toH (a0)) := rfl
theorem impl_SizeAt.go {k : Nat} {a0_0 : Int} {a0_1 : Int} {a0_2 : Int} {a0_3 : ByteArray} {l0_4 : List S77} {a1 : Int} {t} (h : impl_SizeAt.f k a0_0 a0_1 a0_2 a0_3 l0_4 a1 = some t) (K : Nat) (hK : k ≤ K) : impl_SizeAt.run K ((⟨a0_0, a0_1, a0_2, a0_3, l0_4⟩ : S28), a1, ()) = some (impl_SizeAt.toH t) := by
  rw [impl_SizeAt.ef]
  (try dsimp only)
  unfold impl_SizeAt.f at h
  repeat' (with_reducible first
   | exact nos h
   | (cases some_inj h; exact impl_SizeAt.rt _)
   | (simp only [Option.bind_some] at h)
   | (refine ite_by h ?_ ?_ <;> (intro hc h; (try simp only [nrm] at hc)))
   | refine itT ?_
   | refine itF ?_
   | (refine bind_by h (fun t ht h => ?_); (first | refine (impl_CornerArea.ap_of (impl_CornerArea.go ht _ (by omega))).trans ?_ | refine (impl_CornerSize.ap_of (impl_CornerSize.go ht _ (by omega))).trans ?_); (try dsimp only at h ⊢))
   | (simp only [nr2] at h ⊢)
   | (exfalso; omega))
def impl_ShrinkFeature.Fs : List (Spc env) := [impl_cloneFeature.spec, impl_IsFeature.spec, impl_SizeAt.spec, impl_CanShrink.spec, impl_DropFrom.spec]
def impl_ShrinkFeature.fin : St eΓ → Option (HL eΓ [.st .s28]) := finR env Try.f21.results.toList [.st .s28]
def impl_ShrinkFeature.cut : Nat → Option (List (Lv SC)) := lk [(4, [⟨1, none, false⟩, ⟨2, none, false⟩, ⟨6, none, false⟩, ⟨7, none, false⟩]), (6, [⟨1, none, false⟩, ⟨2, none, false⟩, ⟨6, none, false⟩, ⟨7, none, false⟩, ⟨8, none, false⟩, ⟨19, none, false⟩, ⟨20, none, false⟩])]
def impl_ShrinkFeature.ret (r0 : S28) : Option (HL eΓ [.st .s28]) := some (r0, ())
def impl_ShrinkFeature.p4 (k : Nat) (x2 : Int) (x1 : List S28) (b1_0 : Int) (b1_1 : Int) (b1_2 : Int) (b1_3 : ByteArray) (b2_0 : Int) (b2_1 : Int) (b2_2 : Int) (b2_3 : ByteArray) (b3 : List S77) : Option (HL eΓ [.st .s28]) := evM env impl_ShrinkFeature.Fs Try.f21.ntmps impl_ShrinkFeature.fin impl_ShrinkFeature.cut k [.code (sub_ [1, 1, 1, 0, 0, 0, 0] (bodyOf Try.f21)), .code (sub_ [1, 1, 1, 0, 0, 0, 1] (bodyOf Try.f21)), .blk 1, .lp (sub_ [1, 1, 1, 0, 0] (bodyOf Try.f21)), .blk 0] (mkSt [(1, .c (.sl 0)), (2, .c (.v (.int .i64 x2))), (6, .c (.ptr 1 0)), (7, .c (.ptr 2 0))] [.row .ro 28 (.st .s28) x1, .box 28 [.v (.int .i64 b1_0), .v (.int .i64 b1_1), .v (.int .i64 b1_2), .v (.string b1_3), .v (.slice none 0 0)], .box 28 [.v (.int .i64 b2_0), .v (.int .i64 b2_1), .v (.int .i64 b2_2), .v (.string b2_3), .sl 3], .row .own 77 (.st .s77) b3])
def impl_ShrinkFeature.p6 (k : Nat) (x2 : Int) (x8 : Int) (x19 : Int) (x20 : Int) (x1 : List S28) (b1_0 : Int) (b1_1 : Int) (b1_2 : Int) (b1_3 : ByteArray) (b2_0 : Int) (b2_1 : Int) (b2_2 : Int) (b2_3 : ByteArray) (b3 : List S77) : Option (HL eΓ [.st .s28]) := evM env impl_ShrinkFeature.Fs Try.f21.ntmps impl_ShrinkFeature.fin impl_ShrinkFeature.cut k [.code (sub_ [1, 1, 1, 0, 0, 0, 1, 0, 1, 0, 0, 0] (bodyOf Try.f21)), .code (sub_ [1, 1, 1, 0, 0, 0, 1, 0, 1, 0, 0, 1] (bodyOf Try.f21)), .lp (sub_ [1, 1, 1, 0, 0, 0, 1, 0, 1, 0, 0] (bodyOf Try.f21)), .blk 2, .code (sub_ [1, 1, 1, 0, 0, 0, 1, 1] (bodyOf Try.f21)), .blk 1, .lp (sub_ [1, 1, 1, 0, 0] (bodyOf Try.f21)), .blk 0] (mkSt [(1, .c (.sl 0)), (2, .c (.v (.int .i64 x2))), (6, .c (.ptr 1 0)), (7, .c (.ptr 2 0)), (8, .c (.v (.int .i64 x8))), (19, .c (.v (.int .i64 x19))), (20, .c (.v (.int .i64 x20)))] [.row .ro 28 (.st .s28) x1, .box 28 [.v (.int .i64 b1_0), .v (.int .i64 b1_1), .v (.int .i64 b1_2), .v (.string b1_3), .v (.slice none 0 0)], .box 28 [.v (.int .i64 b2_0), .v (.int .i64 b2_1), .v (.int .i64 b2_2), .v (.string b2_3), .sl 3], .row .own 77 (.st .s77) b3])
theorem impl_ShrinkFeature.e4 (k : Nat) (x2 : Int) (x1 : List S28) (b1_0 : Int) (b1_1 : Int) (b1_2 : Int) (b1_3 : ByteArray) (b2_0 : Int) (b2_1 : Int) (b2_2 : Int) (b2_3 : ByteArray) (b3 : List S77) : impl_ShrinkFeature.p4 (k + 1) x2 x1 b1_0 b1_1 b1_2 b1_3 b2_0 b2_1 b2_2 b2_3 b3 = impl_ShrinkFeature.p6 k x2 (-1) (b3.length : Int) 0 x1 b1_0 b1_1 b1_2 b1_3 b2_0 b2_1 b2_2 b2_3 b3 := by kernel_rfl
theorem impl_ShrinkFeature.e6 (k : Nat) (x2 : Int) (x8 : Int) (x19 : Int) (x20 : Int) (x1 : List S28) (b1_0 : Int) (b1_1 : Int) (b1_2 : Int) (b1_3 : ByteArray) (b2_0 : Int) (b2_1 : Int) (b2_2 : Int) (b2_3 : ByteArray) (b3 : List S77) : impl_ShrinkFeature.p6 (k + 1) x2 x8 x19 x20 x1 b1_0 b1_1 b1_2 b1_3 b2_0 b2_1 b2_2 b2_3 b3 = if x20 < x19 then (impl_SizeAt.ap k (⟨b2_0, b2_1, b2_2, b2_3, b3⟩ : S28) x20 fun r1 => if r1 < x2 then (if x8 < 0 then (impl_CanShrink.ap k (⟨b2_0, b2_1, b2_2, b2_3, b3⟩ : S28) x20 x1 fun r2 => if r2 = true then (impl_ShrinkFeature.p6 k x2 x20 x19 (wrap64 (x20 + 1)) x1 b1_0 b1_1 b1_2 b1_3 b2_0 b2_1 b2_2 b2_3 b3) else (impl_ShrinkFeature.p6 k x2 x8 x19 (wrap64 (x20 + 1)) x1 b1_0 b1_1 b1_2 b1_3 b2_0 b2_1 b2_2 b2_3 b3)) else (impl_SizeAt.ap k (⟨b2_0, b2_1, b2_2, b2_3, b3⟩ : S28) x8 fun r3 => if r1 < r3 then (impl_CanShrink.ap k (⟨b2_0, b2_1, b2_2, b2_3, b3⟩ : S28) x20 x1 fun r4 => if r4 = true then (impl_ShrinkFeature.p6 k x2 x20 x19 (wrap64 (x20 + 1)) x1 b1_0 b1_1 b1_2 b1_3 b2_0 b2_1 b2_2 b2_3 b3) else (impl_ShrinkFeature.p6 k x2 x8 x19 (wrap64 (x20 + 1)) x1 b1_0 b1_1 b1_2 b1_3 b2_0 b2_1 b2_2 b2_3 b3)) else (impl_ShrinkFeature.p6 k x2 x8 x19 (wrap64 (x20 + 1)) x1 b1_0 b1_1 b1_2 b1_3 b2_0 b2_1 b2_2 b2_3 b3))) else (impl_ShrinkFeature.p6 k x2 x8 x19 (wrap64 (x20 + 1)) x1 b1_0 b1_1 b1_2 b1_3 b2_0 b2_1 b2_2 b2_3 b3)) else (if x8 < 0 then (impl_ShrinkFeature.ret (⟨b2_0, b2_1, b2_2, b2_3, b3⟩ : S28)) else (impl_DropFrom.ap k (⟨b2_0, b2_1, b2_2, b2_3, b3⟩ : S28) x8 fun r5_0 r5_1 => impl_ShrinkFeature.p4 k x2 x1 b1_0 b1_1 b1_2 b1_3 r5_0.f0 r5_0.f1 r5_0.f2 r5_0.f3 r5_0.f4)) := by kernel_rfl
def impl_ShrinkFeature.run (k : Nat) (h : HL eΓ [.st .s28, .l 28 (.st .s28), .i .i64]) : Option (HL eΓ [.st .s28]) := evF env impl_ShrinkFeature.Fs Try.f21 impl_ShrinkFeature.cut [.st .s28, .l 28 (.st .s28), .i .i64] [.st .s28] k h
theorem impl_ShrinkFeature.ef (k : Nat) (h0 : S28) (h1 : List S28) (h2 : Int) : impl_ShrinkFeature.run k (h0, h1, h2, ()) = impl_cloneFeature.ap k (⟨h0.f0, h0.f1, h0.f2, h0.f3, h0.f4⟩ : S28) fun r1 => impl_IsFeature.ap k (⟨h0.f0, h0.f1, h0.f2, h0.f3, h0.f4⟩ : S28) fun r2 => if (!r2) = true then (impl_ShrinkFeature.ret (⟨r1.f0, r1.f1, r1.f2, r1.f3, r1.f4⟩ : S28)) else (impl_ShrinkFeature.p4 k h2 h1 0 0 0 (⟨#[]⟩ : ByteArray) r1.f0 r1.f1 r1.f2 r1.f3 r1.f4) := by kernel_rfl
def impl_ShrinkFeature.toH (t : Int × Int × Int × ByteArray × (List (S77))) : HL eΓ [.st .s28] := ((⟨t.1, t.2.1, t.2.2.1, t.2.2.2.1, t.2.2.2.2⟩ : S28), ())
def impl_ShrinkFeature.spec : Spc env := ⟨21, [.st .s28, .l 28 (.st .s28), .i .i64], [.st .s28], impl_ShrinkFeature.run⟩
theorem impl_ShrinkFeature.snd : Snd env impl_ShrinkFeature.spec := evF_snd env_ok (sndC impl_cloneFeature.snd (sndC impl_IsFeature.snd (sndC impl_SizeAt.snd (sndC impl_CanShrink.snd (sndC impl_DropFrom.snd (sndN))))))
attribute [local irreducible] impl_ShrinkFeature.run
theorem impl_ShrinkFeature.rt (a0 : Int) (a1 : Int) (a2 : Int) (a3 : ByteArray) (a4 : List S77) : impl_ShrinkFeature.ret (⟨a0, a1, a2, a3, a4⟩ : S28) = some (impl_ShrinkFeature.toH (a0, a1, a2, a3, a4)) := rfl
theorem impl_ShrinkFeature.br (n : Nat) : (∀ K, n ≤ K → ∀ (x2 : Int) (x1 : List S28) (b1_0 : Int) (b1_1 : Int) (b1_2 : Int) (b1_3 : ByteArray) (b2_0 : Int) (b2_1 : Int) (b2_2 : Int) (b2_3 : ByteArray) (b3 : List S77) t, impl_ShrinkFeature.l0 n x1 x2 b2_0 b2_1 b2_2 b2_3 b3 = some t → impl_ShrinkFeature.p4 K x2 x1 b1_0 b1_1 b1_2 b1_3 b2_0 b2_1 b2_2 b2_3 b3 = some (impl_ShrinkFeature.toH t)) ∧ (∀ K, n ≤ K → ∀ (x2 : Int) (x8 : Int) (x19 : Int) (x20 : Int) (x1 : List S28) (b1_0 : Int) (b1_1 : Int) (b1_2 : Int) (b1_3 : ByteArray) (b2_0 : Int) (b2_1 : Int) (b2_2 : Int) (b2_3 : ByteArray) (b3 : List S77) t, impl_ShrinkFeature.l1 n x1 x2 x8 x19 x20 b2_0 b2_1 b2_2 b2_3 b3 = some t → impl_ShrinkFeature.p6 K x2 x8 x19 x20 x1 b1_0 b1_1 b1_2 b1_3 b2_0 b2_1 b2_2 b2_3 b3 = some (impl_ShrinkFeature.toH t)) := by
  induction n using Nat.strongRecOn with
  | _ n ih =>
  refine ⟨fun K hK x2 x1 b1_0 b1_1 b1_2 b1_3 b2_0 b2_1 b2_2 b2_3 b3 t h => ?_, fun K hK x2 x8 x19 x20 x1 b1_0 b1_1 b1_2 b1_3 b2_0 b2_1 b2_2 b2_3 b3 t h => ?_⟩
  all_goals (rcases n with _ | k)
  all_goals (try (exact nos h))
  all_goals (obtain ⟨K, rfl⟩ : ∃ q, K = q + 1 := ⟨K - 1, by omega⟩)
  all_goals (first | rw [impl_ShrinkFeature.e4] | rw [impl_ShrinkFeature.e6])
  all_goals (simp only [impl_ShrinkFeature.l0, impl_ShrinkFeature.l1] at h)
  repeat' (with_reducible first
   | exact nos h
   | (cases some_inj h; exact impl_ShrinkFeature.rt _ _ _ _ _)
   | exact (ih _ (by omega)).1 _ (by omega) _ _ _ _ _ _ _ _ _ _ _ _ h
   | exact (ih _ (by omega)).2 _ (by omega) _ _ _ _ _ _ _ _ _ _ _ _ _ _ _ h
   | (simp only [Option.bind_some] at h)
   | (refine ite_by h ?_ ?_ <;> (intro hc h; (try simp only [nrm] at hc)))
   | refine itT ?_
   | refine itF ?_
   | (refine bind_by h (fun t ht h => ?_); (first | refine (impl_cloneFeature.ap_of (impl_cloneFeature.go ht _)).trans ?_ | refine (impl_IsFeature.ap_of (impl_IsFeature.go ht _ (by omega))).trans ?_ | refine (impl_SizeAt.ap_of (impl_SizeAt.go ht _ (by omega))).trans ?_ | refine (impl_CanShrink.ap_of (impl_CanShrink.go ht _ (by omega))).trans ?_ | refine (impl_DropFrom.ap_of (impl_DropFrom.go ht _ (by omega))).trans ?_); (try dsimp only at h ⊢))
   | (simp only [nr2] at h ⊢)
   | (exfalso; omega))
theorem impl_ShrinkFeature.go {k : Nat} {a0_0 : Int} {a0_1 : Int} {a0_2 : Int} {a0_3 : ByteArray} {l0_4 : List S77} {l1 : List S28} {a2 : Int} {t} (h : impl_ShrinkFeature.f k a0_0 a0_1 a0_2 a0_3 l0_4 l1 a2 = some t) (K : Nat) (hK : k ≤ K) : impl_ShrinkFeature.run K ((⟨a0_0, a0_1, a0_2, a0_3, l0_4⟩ : S28), l1, a2, ()) = some (impl_ShrinkFeature.toH t) := by
  rw [impl_ShrinkFeature.ef]
  (try dsimp only)
  unfold impl_ShrinkFeature.f at h
  repeat' (with_reducible first
   | exact nos h
   | (cases some_inj h; exact impl_ShrinkFeature.rt _ _ _ _ _)
   | exact (impl_ShrinkFeature.br _).1 _ (by omega) _ _ _ _ _ _ _ _ _ _ _ _ h
   | exact (impl_ShrinkFeature.br _).2 _ (by omega) _ _ _ _ _ _ _ _ _ _ _ _ _ _ _ h
   | (simp only [Option.bind_some] at h)
   | (refine ite_by h ?_ ?_ <;> (intro hc h; (try simp only [nrm] at hc)))
   | refine itT ?_
   | refine itF ?_
   | (refine bind_by h (fun t ht h => ?_); (first | refine (impl_cloneFeature.ap_of (impl_cloneFeature.go ht _)).trans ?_ | refine (impl_IsFeature.ap_of (impl_IsFeature.go ht _ (by omega))).trans ?_ | refine (impl_SizeAt.ap_of (impl_SizeAt.go ht _ (by omega))).trans ?_ | refine (impl_CanShrink.ap_of (impl_CanShrink.go ht _ (by omega))).trans ?_ | refine (impl_DropFrom.ap_of (impl_DropFrom.go ht _ (by omega))).trans ?_); (try dsimp only at h ⊢))
   | (simp only [nr2] at h ⊢)
   | (exfalso; omega))
theorem impl_ShrinkFeature.calls (k : Nat) (a0_0 : Int) (a0_1 : Int) (a0_2 : Int) (a0_3 : ByteArray) (A0_4 : Option Addr) (c0_4 : Nat) (l0_4 : List (S77)) (A1 : Option Addr) (c1 : Nat) (l1 : List (S28)) (a2 : Int) (r1 : Int) (r2 : Int) (r3 : Int) (r4 : ByteArray) (r5 : List (S77)) (w : World) (hr0_4 : Kd.C k77 w A0_4 l0_4.length l0_4) (hc0_4 : l0_4.length ≤ c0_4) (hr1 : Kd.C k28 w A1 l1.length l1) (hc1 : l1.length ≤ c1) (h : impl_ShrinkFeature.f k a0_0 a0_1 a0_2 a0_3 l0_4 l1 a2 = some (r1, r2, r3, r4, r5)) :
  Calls Try.prog 21 #[.agg #[.int .i64 a0_0, .int .i64 a0_1, .int .i64 a0_2, .string a0_3, .slice A0_4 l0_4.length c0_4], .slice A1 l1.length c1, .int .i64 a2] w fun e w' => ∃ v4_ : Value, e = .returned (.agg #[.int .i64 r1, .int .i64 r2, .int .i64 r3, .string r4, v4_]) ∧ Kd.R k77 77 w' w.heap.size (fun _ => True) v4_ r5 ∧ Below w.heap.size w w' := by
  refine (impl_ShrinkFeature.snd.calls _ _ _ (impl_ShrinkFeature.go h k (Nat.le_refl k)) w [.agg #[.int .i64 a0_0, .int .i64 a0_1, .int .i64 a0_2, .string a0_3, .slice A0_4 l0_4.length c0_4], .slice A1 l1.length c1, .int .i64 a2] ⟨⟨_, rfl, (H28.K _ _ _).2 ⟨rfl, rfl, rfl, rfl, ⟨_, _, rfl, hc0_4, hr0_4⟩, trivial⟩⟩, ⟨_, _, rfl, hc1, hr1⟩, rfl, trivial⟩).mono ?_
  rintro e w' ⟨v, rfl, hB, vs, oks, rfl, hR, _⟩
  obtain ⟨x0_, vs, o0_, oks, rfl, rfl, m0_, hR⟩ := rmsC hR
  obtain rfl := rmsN hR
  obtain ⟨y0, rfl, m0_⟩ := m0_
  have m0_ := (H28.M _ _ _ _ _).1 m0_
  match e0 : y0.toList, m0_ with
  | [d0_0, d0_1, d0_2, d0_3, d0_4], ⟨n0_0, n0_1, n0_2, n0_3, n0_4, _⟩ =>
  obtain rfl : y0 = #[d0_0, d0_1, d0_2, d0_3, d0_4] := by rw [← Array.toArray_toList (xs := y0), e0]
  obtain rfl := List.singleton_inj.1 (show [d0_0] = [Value.int .i64 r1] from n0_0)
  obtain rfl := List.singleton_inj.1 (show [d0_1] = [Value.int .i64 r2] from n0_1)
  obtain rfl := List.singleton_inj.1 (show [d0_2] = [Value.int .i64 r3] from n0_2)
  obtain rfl := List.singleton_inj.1 (show [d0_3] = [Value.string r4] from n0_3)
  obtain ⟨d0_4v, d0_4e, d0_4R⟩ := n0_4
  obtain rfl := List.singleton_inj.1 d0_4e
  exact ⟨_, rfl, Kd.R_mono d0_4R (fun _ _ => trivial), hB⟩
set_option maxHeartbeats 8000000 in
set_option maxRecDepth 100000 in
theorem laws_FnExactShrinkFeature.calls (k : Nat) (a0_0 : Int) (a0_1 : Int) (a0_2 : Int) (a0_3 : ByteArray) (A0_4 : Option Addr) (c0_4 : Nat) (l0_4 : List (S85)) (A1_ : Option Addr) (c1_ : Nat) (l1 : List (S24)) (a2 : Int) (r : Bool) (w : World) (hr0_4 : Kd.C k85 w A0_4 l0_4.length l0_4) (hc0_4 : l0_4.length ≤ c0_4) (hr1 : Kd.C k24 w A1_ l1.length l1) (hc1 : l1.length ≤ c1_) (h : laws_FnExactShrinkFeature.f k a0_0 a0_1 a0_2 a0_3 l0_4 l1 a2 = some r) :
    Calls Try.prog 5 #[.agg #[.int .i64 a0_0, .int .i64 a0_1, .int .i64 a0_2, .string a0_3, .slice A0_4 l0_4.length c0_4], .slice A1_ l1.length c1_, .int .i64 a2] w fun e w' => e = .returned (.bool r) ∧ Below w.heap.size w w' := by
  have HR0 := Aside0.mk hr0_4
  have HC0 := Aside0.mk hc0_4
  have HR1 := Aside0.mk hr1
  have HC1 := Aside0.mk hc1
  clear hr0_4 hc0_4 hr1 hc1
  unfold laws_FnExactShrinkFeature.f at h
  obtain ⟨t, hA0, h⟩ := Option.bind_eq_some_iff.mp h
  have A0 := Aside0.mk hA0
  clear hA0
  by_cases c0 : t < 0
  · rw [if_pos c0] at h
    obtain rfl := Option.some.inj h
    have c0b : decide (t < 0) = true := decide_eq_true c0
    clear c0 h
    go_enter Try.func5, Try.ntmps5
    go_wp2_with (fail)
    go_at_call 8
    refine (laws_szFeature.calls a0_0 a0_1 a0_2 a0_3 A0_4 c0_4 l0_4 1048576 t _ (Kd.C_alloc HR0.out _) HC0.out A0.out).mono ?_
    rintro e w1 ⟨rfl, hb⟩
    have HB1 := Aside0.mk (below_step (below_alloc (Below.refl w.heap.size w) _) hb)
    clear hb
    go_wp2_with (fail)
    go_ret
    exact ⟨rfl, HB1.out⟩
  rw [if_neg c0] at h
  have c0b : decide (t < 0) = false := decide_eq_false c0
  clear c0
  obtain ⟨u, hA1, h⟩ := Option.bind_eq_some_iff.mp h
  have A1 := Aside0.mk hA1
  clear hA1
  by_cases c1 : u < 0
  · rw [if_pos c1] at h
    obtain rfl := Option.some.inj h
    have c1b : decide (u < 0) = true := decide_eq_true c1
    clear c1 h
    go_enter Try.func5, Try.ntmps5
    go_wp2_with (fail)
    go_at_call 8
    refine (laws_szFeature.calls a0_0 a0_1 a0_2 a0_3 A0_4 c0_4 l0_4 1048576 t _ (Kd.C_alloc HR0.out _) HC0.out A0.out).mono ?_
    rintro e w1 ⟨rfl, hb⟩
    have HB1 := Aside0.mk (below_step (below_alloc (Below.refl w.heap.size w) _) hb)
    clear hb
    go_wp2_with (fail)
    go_at_call 15
    refine (laws_szFeatureS.calls k A1_ c1_ l1 t u _ (Kd.C_below HR1.out HB1.out) HC1.out A1.out).mono ?_
    rintro e w2 ⟨rfl, hb⟩
    have HB2 := Aside0.mk (below_step HB1.out hb)
    clear hb
    go_wp2_with (fail)
    go_ret
    exact ⟨rfl, HB2.out⟩
  rw [if_neg c1] at h
  have c1b : decide (u < 0) = false := decide_eq_false c1
  clear c1
  obtain ⟨⟨x0, x1, x2, x3, x4⟩, hA2, h⟩ := Option.bind_eq_some_iff.mp h
  obtain ⟨y, hA3, h⟩ := Option.bind_eq_some_iff.mp h
  obtain ⟨⟨s0, s1, s2, s3, s4⟩, hA4, h⟩ := Option.bind_eq_some_iff.mp h
  obtain ⟨⟨g0, g1, g2, g3, g4⟩, hA5, h⟩ := Option.bind_eq_some_iff.mp h
  obtain ⟨e1, hA6, h⟩ := Option.bind_eq_some_iff.mp h
  obtain ⟨e2, hA7, h⟩ := Option.bind_eq_some_iff.mp h
  obtain ⟨e3, hA8, h⟩ := Option.bind_eq_some_iff.mp h
  obtain ⟨⟨mx, Mx⟩, hA9, h⟩ := Option.bind_eq_some_iff.mp h
  obtain ⟨⟨mg, Mg⟩, hA10, h⟩ := Option.bind_eq_some_iff.mp h
  obtain ⟨q, hA11, h⟩ := Option.bind_eq_some_iff.mp h
  dsimp only at hA4 hA5 hA6 hA7 hA9 hA10 hA11 h
  by_cases hc : e1 = true ∧ e2 = true ∧ e3 = true ∧ 0 ≤ mx ∧ mx + (mfT y : Int) < 4611686018427387904 ∧ 0 ≤ mg ∧ q = mg
  case neg => rw [if_neg hc] at h; cases h
  rw [if_pos hc] at h
  obtain rfl := Option.some.inj h
  obtain ⟨rfl, rfl, rfl, h0x, hmx, h0g, rfl⟩ := hc
  have A2 := Aside0.mk hA2; have A3 := Aside0.mk hA3; have A4 := Aside0.mk hA4; have A5 := Aside0.mk hA5; have A6 := Aside0.mk hA6; have A7 := Aside0.mk hA7; have A8 := Aside0.mk hA8; have A9 := Aside0.mk hA9; have A10 := Aside0.mk hA10; have A11 := Aside0.mk hA11; have MX := Aside0.mk hmx; have MX0 := Aside0.mk h0x
  have k1 : decide (mx + (mfT y : Int) < 0) = false := decide_eq_false (by omega)
  have k2 : decide (q < 0) = false := decide_eq_false (by omega)
  clear h hA2 hA3 hA4 hA5 hA6 hA7 hA8 hA9 hA10 hA11 hmx h0x h0g
  go_enter Try.func5, Try.ntmps5
  go_wp2_with (fail)
  go_at_call 8
  refine (laws_szFeature.calls a0_0 a0_1 a0_2 a0_3 A0_4 c0_4 l0_4 1048576 t _ (Kd.C_alloc HR0.out _) HC0.out A0.out).mono ?_
  rintro e w1 ⟨rfl, hb⟩
  have HB1 := Aside0.mk (below_step (below_alloc (Below.refl w.heap.size w) _) hb)
  have BKa := Aside0.mk (blk_below (g := w.heap.size) (o := .cells #[.int .i64 a0_0, .int .i64 a0_1, .int .i64 a0_2, .string a0_3, .slice A0_4 l0_4.length c0_4] 24 (0, 0)) (by show (w.heap.push _)[w.heap.size]? = _; exact Array.getElem?_push_size) hb)
  clear hb
  obtain ⟨ga, hga⟩ : ∃ ga, ga = w.heap.size := ⟨_, rfl⟩
  have GA := Aside0.mk hga
  rw [← hga] at BKa ⊢
  clear hga
  go_wp2_with (fail)
  go_at_call 15
  refine (laws_szFeatureS.calls k A1_ c1_ l1 t u _ (Kd.C_below HR1.out HB1.out) HC1.out A1.out).mono ?_
  rintro e w2 ⟨rfl, hb⟩
  have HB2 := Aside0.mk (below_step HB1.out hb)
  have BKb := Aside0.mk (blk_below BKa.out hb)
  clear hb BKa
  obtain ⟨h2_0, h2_1, h2_2, h2_3, h2_4, _, _, _, _, _⟩ := cells5 BKb
  go_wp2_with (fail)
  go_at_call 10
  refine (laws_toFeature.calls k a0_0 a0_1 a0_2 a0_3 A0_4 c0_4 l0_4 x0 x1 x2 x3 x4 _ (Kd.C_below HR0.out HB2.out) HC0.out A2.out).mono ?_
  rintro e w3 ⟨v3, rfl, ho, hb⟩
  obtain ⟨X3, d3, e3⟩ := Kd.R_slice ho
  subst e3
  have R3 := Aside0.mk (Kd.R_reads' ho).2
  have HB3 := Aside0.mk (below_step HB2.out hb)
  have BKc := Aside0.mk (blk_below BKb.out hb)
  clear ho hb BKb
  go_wp2_with (fail)
  go_at_call 17
  refine (laws_toFeatureS.calls k A1_ c1_ l1 y _ (Kd.C_below HR1.out HB3.out) HC1.out A3.out).mono ?_
  rintro e w4 ⟨v4, rfl, ho, hb⟩
  obtain ⟨Y4, b4, e4⟩ := Kd.S_slice ho
  subst e4
  have S4 := Aside0.mk (Kd.S_reads' ho).2
  have R4 := Aside0.mk (Kd.C_below R3.out.2 hb)
  have HB4 := Aside0.mk (below_step HB3.out hb)
  have BKd := Aside0.mk (blk_below BKc.out hb)
  clear ho hb BKc
  go_wp2_with (fail)
  go_at_call 20
  refine (spec_ShrinkFeature.calls k x0 x1 x2 x3 X3 d3 x4 Y4 b4 y a2 s0 s1 s2 s3 s4 _ R4.out R3.out.1 S4.out.2 S4.out.1 A4.out).mono ?_
  rintro e w5 ⟨v5, rfl, ho, hb⟩
  obtain ⟨X5, d5, e5⟩ := Kd.R_slice ho
  subst e5
  have L5 := Aside0.mk (Kd.R_reads' ho).2.1
  have F5 := Aside0.mk (Kd.F_mono (Kd.F_bound (Kd.N_F (Kd.R_N ho))) (ok' := fun k_ => k_ < w5.heap.size) (fun _ hk => hk.2))
  have HB5 := Aside0.mk (below_step HB4.out hb)
  have BKe := Aside0.mk (blk_below BKd.out hb)
  clear ho hb BKd R3 R4 S4
  have HB := HB5
  have BKga := BKe
  clear HB5 BKe
  have EFs := Aside0.mk (Below.refl w5.heap.size w5)
  have F5_ := F5
  clear F5
  have Fs := F5_
  clear F5_
  go_wp2_with (first | ((with_reducible refine gt (some 8) rfl ?_); refine bx #[.int .i64 0, .int .i64 0, .int .i64 0, .string (⟨#[]⟩ : ByteArray), .slice none 0 0] 28 ?_; intro gs hg w6 hbox hb; have BKgs := Aside0.mk hbox; have GX_gs := Aside0.mk (show w5.heap.size ≤ gs by rw [hg]; exact Nat.le_refl _); have QFs := Aside0.mk (show w5.heap.size ≤ gs from Nat.le_trans (below_size EFs.out) GX_gs.out); have QHB := Aside0.mk (show w.heap.size ≤ gs from Nat.le_trans (below_size HB.out) GX_gs.out); have QEFs := Aside0.mk (show w5.heap.size ≤ gs from Nat.le_trans (below_size EFs.out) GX_gs.out); have hnbgsga : gs ≠ ga := (by have h_ := blk_lt BKga.out; have h2_ := GX_gs.out; omega); have hncgsga : ga ≠ gs := Ne.symm hnbgsga; have NBgsga := Aside0.mk hncgsga; have n0_ := Aside0.mk (below_step HB.out hb); have n1_ := Aside0.mk (blk_below BKga.out hb); have n2_ := Aside0.mk (Kd.F_below Fs.out hb); have n3_ := Aside0.mk (below_step EFs.out hb); clear HB BKga Fs EFs; have HB := n0_; have BKga := n1_; have Fs := n2_; have EFs := n3_; clear n0_ n1_ n2_ n3_; obtain ⟨hcga_0, hcga_1, hcga_2, hcga_3, hcga_4, _, _, _, _, _⟩ := cells5 BKga; obtain ⟨hz_0, hz_1, hz_2, hz_3, hz_4, hy_0, hy_1, hy_2, hy_3, hy_4⟩ := cells5 BKgs; clear hbox hb hg))
  have n0_ : Aside0 ((((((w6.setCell ⟨gs, 0, none⟩ (.int .i64 s0)).setCell ⟨gs, 1, none⟩ (.int .i64 s1)).setCell ⟨gs, 2, none⟩ (.int .i64 s2)).setCell ⟨gs, 3, none⟩ (.string s3)).setCell ⟨gs, 4, none⟩ (.slice X5 s4.length d5)).heap[gs]? = some (.cells #[.int .i64 s0, .int .i64 s1, .int .i64 s2, .string s3, .slice X5 s4.length d5] 28 (0, 0))) := ⟨by refine blk_put (cs := #[.int .i64 s0, .int .i64 s1, .int .i64 s2, .string s3, .slice none 0 0]) ?_ 4 _ rfl; refine blk_put (cs := #[.int .i64 s0, .int .i64 s1, .int .i64 s2, .string (⟨#[]⟩ : ByteArray), .slice none 0 0]) ?_ 3 _ rfl; refine blk_put (cs := #[.int .i64 s0, .int .i64 s1, .int .i64 0, .string (⟨#[]⟩ : ByteArray), .slice none 0 0]) ?_ 2 _ rfl; refine blk_put (cs := #[.int .i64 s0, .int .i64 0, .int .i64 0, .string (⟨#[]⟩ : ByteArray), .slice none 0 0]) ?_ 1 _ rfl; refine blk_put (cs := #[.int .i64 0, .int .i64 0, .int .i64 0, .string (⟨#[]⟩ : ByteArray), .slice none 0 0]) ?_ 0 _ rfl; exact BKgs.out⟩
  have n1_ := Aside0.mk (show (((((w6.setCell ⟨gs, 0, none⟩ (.int .i64 s0)).setCell ⟨gs, 1, none⟩ (.int .i64 s1)).setCell ⟨gs, 2, none⟩ (.int .i64 s2)).setCell ⟨gs, 3, none⟩ (.string s3)).setCell ⟨gs, 4, none⟩ (.slice X5 s4.length d5)).heap[ga]? = _ from blk_far (blk_far (blk_far (blk_far (blk_far BKga.out NBgsga.out _) NBgsga.out _) NBgsga.out _) NBgsga.out _) NBgsga.out _)
  have n2_ := Aside0.mk (Kd.F_step Fs.out (W1 := (((((w6.setCell ⟨gs, 0, none⟩ (.int .i64 s0)).setCell ⟨gs, 1, none⟩ (.int .i64 s1)).setCell ⟨gs, 2, none⟩ (.int .i64 s2)).setCell ⟨gs, 3, none⟩ (.string s3)).setCell ⟨gs, 4, none⟩ (.slice X5 s4.length d5))) (fun k_ hk hlt => by have hne : k_ ≠ gs := (by have h3_ := hk; have h4_ := QFs.out; omega); rw [Below.heap_setCell _ ⟨gs, 4, none⟩ _ k_ hne, Below.heap_setCell _ ⟨gs, 3, none⟩ _ k_ hne, Below.heap_setCell _ ⟨gs, 2, none⟩ _ k_ hne, Below.heap_setCell _ ⟨gs, 1, none⟩ _ k_ hne, Below.heap_setCell _ ⟨gs, 0, none⟩ _ k_ hne]))
  have n3_ : Aside0 (Below w.heap.size w (((((w6.setCell ⟨gs, 0, none⟩ (.int .i64 s0)).setCell ⟨gs, 1, none⟩ (.int .i64 s1)).setCell ⟨gs, 2, none⟩ (.int .i64 s2)).setCell ⟨gs, 3, none⟩ (.string s3)).setCell ⟨gs, 4, none⟩ (.slice X5 s4.length d5))) := ⟨by have h1_ : w.heap.size ≤ gs := QHB.out; exact below_set (below_set (below_set (below_set (below_set (HB.out) h1_) h1_) h1_) h1_) h1_⟩
  have n4_ : Aside0 (Below w5.heap.size w5 (((((w6.setCell ⟨gs, 0, none⟩ (.int .i64 s0)).setCell ⟨gs, 1, none⟩ (.int .i64 s1)).setCell ⟨gs, 2, none⟩ (.int .i64 s2)).setCell ⟨gs, 3, none⟩ (.string s3)).setCell ⟨gs, 4, none⟩ (.slice X5 s4.length d5))) := ⟨by have h1_ : w5.heap.size ≤ gs := QEFs.out; exact below_set (below_set (below_set (below_set (below_set (EFs.out) h1_) h1_) h1_) h1_) h1_⟩
  generalize (((((w6.setCell ⟨gs, 0, none⟩ (.int .i64 s0)).setCell ⟨gs, 1, none⟩ (.int .i64 s1)).setCell ⟨gs, 2, none⟩ (.int .i64 s2)).setCell ⟨gs, 3, none⟩ (.string s3)).setCell ⟨gs, 4, none⟩ (.slice X5 s4.length d5)) = w7 at n0_ n1_ n2_ n3_ n4_ ⊢
  clear BKgs BKga Fs HB EFs
  have BKgs := n0_
  have BKga := n1_
  have Fs := n2_
  have HB := n3_
  have EFs := n4_
  clear n0_ n1_ n2_ n3_ n4_
  clear hz_0 hz_1 hz_2 hz_3 hz_4 hy_0 hy_1 hy_2 hy_3 hy_4 hcga_0 hcga_1 hcga_2 hcga_3 hcga_4
  clear QFs QHB QEFs
  have LTa := Aside0.mk (blk_lt BKga.out)
  have LTs := Aside0.mk (blk_lt BKgs.out)
  have Z57 := Aside0.mk (below_size EFs.out)
  have HB7 := HB
  clear HB
  go_at_call 10
  refine (laws_toFeature.calls k a0_0 a0_1 a0_2 a0_3 A0_4 c0_4 l0_4 x0 x1 x2 x3 x4 _ (Kd.C_below HR0.out HB7.out) HC0.out A2.out).mono ?_
  rintro e w8 ⟨v8, rfl, ho, hb⟩
  obtain ⟨X8, d8, e8⟩ := Kd.R_slice ho
  subst e8
  have n0_ := Aside0.mk (blk_below BKga.out hb)
  have n1_ := Aside0.mk (Kd.F_below Fs.out hb)
  have n2_ := Aside0.mk (below_step EFs.out hb)
  have n3_ := Aside0.mk (blk_below BKgs.out hb)
  clear BKga Fs EFs BKgs
  have BKga := n0_
  have Fs := n1_
  have EFs := n2_
  have BKgs := n3_
  clear n0_ n1_ n2_ n3_
  have Rx := Aside0.mk (Kd.R_mono (Kd.R_bound ho) (ok' := fun k_ => w7.heap.size ≤ k_ ∧ k_ < w8.heap.size) (fun _ hk => ⟨hk.2.1, hk.2.2.1⟩))
  have HX := Aside0.mk hb
  have ERx := Aside0.mk (Below.refl w8.heap.size w8)
  clear ho hb
  go_wp2_with (first | ((with_reducible refine gt (some 9) rfl ?_); refine bx #[.int .i64 0, .int .i64 0, .int .i64 0, .string (⟨#[]⟩ : ByteArray), .slice none 0 0] 28 ?_; intro gx hg w9 hbox hb; have BKgx := Aside0.mk hbox; have GX_gx := Aside0.mk (show w8.heap.size ≤ gx by rw [hg]; exact Nat.le_refl _); have QFs := Aside0.mk (show w5.heap.size ≤ gx from Nat.le_trans (below_size EFs.out) GX_gx.out); have QRx := Aside0.mk (show w8.heap.size ≤ gx from Nat.le_trans (below_size ERx.out) GX_gx.out); have QEFs := Aside0.mk (show w5.heap.size ≤ gx from Nat.le_trans (below_size EFs.out) GX_gx.out); have QHX := Aside0.mk (show w7.heap.size ≤ gx from Nat.le_trans (below_size HX.out) GX_gx.out); have QERx := Aside0.mk (show w8.heap.size ≤ gx from Nat.le_trans (below_size ERx.out) GX_gx.out); have hnbgxga : gx ≠ ga := (by have h_ := blk_lt BKga.out; have h2_ := GX_gx.out; omega); have hncgxga : ga ≠ gx := Ne.symm hnbgxga; have NBgxga := Aside0.mk hncgxga; have hnbgxgs : gx ≠ gs := (by have h_ := blk_lt BKgs.out; have h2_ := GX_gx.out; omega); have hncgxgs : gs ≠ gx := Ne.symm hnbgxgs; have NBgxgs := Aside0.mk hncgxgs; have n0_ := Aside0.mk (blk_below BKga.out hb); have n1_ := Aside0.mk (Kd.F_below Fs.out hb); have n2_ := Aside0.mk (below_step EFs.out hb); have n3_ := Aside0.mk (blk_below BKgs.out hb); have n4_ := Aside0.mk (Kd.R_below Rx.out hb); have n5_ := Aside0.mk (below_step HX.out hb); have n6_ := Aside0.mk (below_step ERx.out hb); clear BKga Fs EFs BKgs Rx HX ERx; have BKga := n0_; have Fs := n1_; have EFs := n2_; have BKgs := n3_; have Rx := n4_; have HX := n5_; have ERx := n6_; clear n0_ n1_ n2_ n3_ n4_ n5_ n6_; obtain ⟨hcga_0, hcga_1, hcga_2, hcga_3, hcga_4, _, _, _, _, _⟩ := cells5 BKga; obtain ⟨hcgs_0, hcgs_1, hcgs_2, hcgs_3, hcgs_4, _, _, _, _, _⟩ := cells5 BKgs; obtain ⟨hz_0, hz_1, hz_2, hz_3, hz_4, hy_0, hy_1, hy_2, hy_3, hy_4⟩ := cells5 BKgx; clear hbox hb hg))
  have n0_ : Aside0 ((((((w9.setCell ⟨gx, 0, none⟩ (.int .i64 x0)).setCell ⟨gx, 1, none⟩ (.int .i64 x1)).setCell ⟨gx, 2, none⟩ (.int .i64 x2)).setCell ⟨gx, 3, none⟩ (.string x3)).setCell ⟨gx, 4, none⟩ (.slice X8 x4.length d8)).heap[gx]? = some (.cells #[.int .i64 x0, .int .i64 x1, .int .i64 x2, .string x3, .slice X8 x4.length d8] 28 (0, 0))) := ⟨by refine blk_put (cs := #[.int .i64 x0, .int .i64 x1, .int .i64 x2, .string x3, .slice none 0 0]) ?_ 4 _ rfl; refine blk_put (cs := #[.int .i64 x0, .int .i64 x1, .int .i64 x2, .string (⟨#[]⟩ : ByteArray), .slice none 0 0]) ?_ 3 _ rfl; refine blk_put (cs := #[.int .i64 x0, .int .i64 x1, .int .i64 0, .string (⟨#[]⟩ : ByteArray), .slice none 0 0]) ?_ 2 _ rfl; refine blk_put (cs := #[.int .i64 x0, .int .i64 0, .int .i64 0, .string (⟨#[]⟩ : ByteArray), .slice none 0 0]) ?_ 1 _ rfl; refine blk_put (cs := #[.int .i64 0, .int .i64 0, .int .i64 0, .string (⟨#[]⟩ : ByteArray), .slice none 0 0]) ?_ 0 _ rfl; exact BKgx.out⟩
  have n1_ := Aside0.mk (show (((((w9.setCell ⟨gx, 0, none⟩ (.int .i64 x0)).setCell ⟨gx, 1, none⟩ (.int .i64 x1)).setCell ⟨gx, 2, none⟩ (.int .i64 x2)).setCell ⟨gx, 3, none⟩ (.string x3)).setCell ⟨gx, 4, none⟩ (.slice X8 x4.length d8)).heap[ga]? = _ from blk_far (blk_far (blk_far (blk_far (blk_far BKga.out NBgxga.out _) NBgxga.out _) NBgxga.out _) NBgxga.out _) NBgxga.out _)
  have n2_ := Aside0.mk (show (((((w9.setCell ⟨gx, 0, none⟩ (.int .i64 x0)).setCell ⟨gx, 1, none⟩ (.int .i64 x1)).setCell ⟨gx, 2, none⟩ (.int .i64 x2)).setCell ⟨gx, 3, none⟩ (.string x3)).setCell ⟨gx, 4, none⟩ (.slice X8 x4.length d8)).heap[gs]? = _ from blk_far (blk_far (blk_far (blk_far (blk_far BKgs.out NBgxgs.out _) NBgxgs.out _) NBgxgs.out _) NBgxgs.out _) NBgxgs.out _)
  have n3_ := Aside0.mk (Kd.F_step Fs.out (W1 := (((((w9.setCell ⟨gx, 0, none⟩ (.int .i64 x0)).setCell ⟨gx, 1, none⟩ (.int .i64 x1)).setCell ⟨gx, 2, none⟩ (.int .i64 x2)).setCell ⟨gx, 3, none⟩ (.string x3)).setCell ⟨gx, 4, none⟩ (.slice X8 x4.length d8))) (fun k_ hk hlt => by have hne : k_ ≠ gx := (by have h3_ := hk; have h4_ := QFs.out; omega); rw [Below.heap_setCell _ ⟨gx, 4, none⟩ _ k_ hne, Below.heap_setCell _ ⟨gx, 3, none⟩ _ k_ hne, Below.heap_setCell _ ⟨gx, 2, none⟩ _ k_ hne, Below.heap_setCell _ ⟨gx, 1, none⟩ _ k_ hne, Below.heap_setCell _ ⟨gx, 0, none⟩ _ k_ hne]))
  have n4_ := Aside0.mk (Kd.R_step Rx.out (w1 := (((((w9.setCell ⟨gx, 0, none⟩ (.int .i64 x0)).setCell ⟨gx, 1, none⟩ (.int .i64 x1)).setCell ⟨gx, 2, none⟩ (.int .i64 x2)).setCell ⟨gx, 3, none⟩ (.string x3)).setCell ⟨gx, 4, none⟩ (.slice X8 x4.length d8))) (fun k_ hk hlt => by have hne : k_ ≠ gx := (by have h3_ := hk.2; have h4_ := QRx.out; omega); rw [Below.heap_setCell _ ⟨gx, 4, none⟩ _ k_ hne, Below.heap_setCell _ ⟨gx, 3, none⟩ _ k_ hne, Below.heap_setCell _ ⟨gx, 2, none⟩ _ k_ hne, Below.heap_setCell _ ⟨gx, 1, none⟩ _ k_ hne, Below.heap_setCell _ ⟨gx, 0, none⟩ _ k_ hne]))
  have n5_ : Aside0 (Below w5.heap.size w5 (((((w9.setCell ⟨gx, 0, none⟩ (.int .i64 x0)).setCell ⟨gx, 1, none⟩ (.int .i64 x1)).setCell ⟨gx, 2, none⟩ (.int .i64 x2)).setCell ⟨gx, 3, none⟩ (.string x3)).setCell ⟨gx, 4, none⟩ (.slice X8 x4.length d8))) := ⟨by have h1_ : w5.heap.size ≤ gx := QEFs.out; exact below_set (below_set (below_set (below_set (below_set (EFs.out) h1_) h1_) h1_) h1_) h1_⟩
  have n6_ : Aside0 (Below w7.heap.size w7 (((((w9.setCell ⟨gx, 0, none⟩ (.int .i64 x0)).setCell ⟨gx, 1, none⟩ (.int .i64 x1)).setCell ⟨gx, 2, none⟩ (.int .i64 x2)).setCell ⟨gx, 3, none⟩ (.string x3)).setCell ⟨gx, 4, none⟩ (.slice X8 x4.length d8))) := ⟨by have h1_ : w7.heap.size ≤ gx := QHX.out; exact below_set (below_set (below_set (below_set (below_set (HX.out) h1_) h1_) h1_) h1_) h1_⟩
  have n7_ : Aside0 (Below w8.heap.size w8 (((((w9.setCell ⟨gx, 0, none⟩ (.int .i64 x0)).setCell ⟨gx, 1, none⟩ (.int .i64 x1)).setCell ⟨gx, 2, none⟩ (.int .i64 x2)).setCell ⟨gx, 3, none⟩ (.string x3)).setCell ⟨gx, 4, none⟩ (.slice X8 x4.length d8))) := ⟨by have h1_ : w8.heap.size ≤ gx := QERx.out; exact below_set (below_set (below_set (below_set (below_set (ERx.out) h1_) h1_) h1_) h1_) h1_⟩
  generalize (((((w9.setCell ⟨gx, 0, none⟩ (.int .i64 x0)).setCell ⟨gx, 1, none⟩ (.int .i64 x1)).setCell ⟨gx, 2, none⟩ (.int .i64 x2)).setCell ⟨gx, 3, none⟩ (.string x3)).setCell ⟨gx, 4, none⟩ (.slice X8 x4.length d8)) = w10 at n0_ n1_ n2_ n3_ n4_ n5_ n6_ n7_ ⊢
  clear BKgx BKga BKgs Fs Rx EFs HX ERx
  have BKgx := n0_
  have BKga := n1_
  have BKgs := n2_
  have Fs := n3_
  have Rx := n4_
  have EFs := n5_
  have HX := n6_
  have ERx := n7_
  clear n0_ n1_ n2_ n3_ n4_ n5_ n6_ n7_
  clear hz_0 hz_1 hz_2 hz_3 hz_4 hy_0 hy_1 hy_2 hy_3 hy_4 hcga_0 hcga_1 hcga_2 hcga_3 hcga_4 hcgs_0 hcgs_1 hcgs_2 hcgs_3 hcgs_4
  clear QFs QRx QEFs QHX QERx
  have LTx := Aside0.mk (blk_lt BKgx.out)
  have Z8_10 := Aside0.mk (below_size ERx.out)
  have Z7_10 := Aside0.mk (below_size HX.out)
  go_at_call 17
  refine (laws_toFeatureS.calls k A1_ c1_ l1 y _ (Kd.C_below HR1.out (below_step HB7.out HX.out)) HC1.out A3.out).mono ?_
  rintro e w11 ⟨v11, rfl, ho, hb⟩
  obtain ⟨Y11, b11, e11⟩ := Kd.S_slice ho
  subst e11
  have n0_ := Aside0.mk (blk_below BKga.out hb)
  have n1_ := Aside0.mk (Kd.F_below Fs.out hb)
  have n2_ := Aside0.mk (below_step EFs.out hb)
  have n3_ := Aside0.mk (blk_below BKgs.out hb)
  have n4_ := Aside0.mk (Kd.R_below Rx.out hb)
  have n5_ := Aside0.mk (below_step HX.out hb)
  have n6_ := Aside0.mk (below_step ERx.out hb)
  have n7_ := Aside0.mk (blk_below BKgx.out hb)
  clear BKga Fs EFs BKgs Rx HX ERx BKgx
  have BKga := n0_
  have Fs := n1_
  have EFs := n2_
  have BKgs := n3_
  have Rx := n4_
  have HX := n5_
  have ERx := n6_
  have BKgx := n7_
  clear n0_ n1_ n2_ n3_ n4_ n5_ n6_ n7_
  have Sy := Aside0.mk (Kd.S_mono (Kd.S_bound ho) (ok' := fun k_ => w10.heap.size ≤ k_ ∧ k_ < w11.heap.size) (fun _ hk => ⟨hk.2.1, hk.2.2.1⟩))
  have ESy := Aside0.mk (Below.refl w11.heap.size w11)
  have Z10_11 := Aside0.mk (below_size hb)
  clear ho hb
  obtain ⟨c11_0, c11_1, c11_2, c11_3, c11_4, _, _, _, _, _⟩ := cells5 BKgx
  go_wp2_with (fail)
  go_at_call 21
  refine (impl_ShrinkFeature.calls k x0 x1 x2 x3 X8 d8 x4 Y11 b11 y a2 g0 g1 g2 g3 g4 _ (Kd.R_reads' Rx.out).2.2 (Kd.R_reads' Rx.out).2.1 (Kd.S_reads' Sy.out).2.2 (Kd.S_reads' Sy.out).2.1 A5.out).mono ?_
  rintro e w12 ⟨v12, rfl, ho, hb⟩
  clear c11_0 c11_1 c11_2 c11_3 c11_4
  obtain ⟨X12, d12, e12⟩ := Kd.R_slice ho
  subst e12
  have n0_ := Aside0.mk (blk_below BKga.out hb)
  have n1_ := Aside0.mk (Kd.F_below Fs.out hb)
  have n2_ := Aside0.mk (below_step EFs.out hb)
  have n3_ := Aside0.mk (blk_below BKgs.out hb)
  have n4_ := Aside0.mk (Kd.R_below Rx.out hb)
  have n5_ := Aside0.mk (below_step HX.out hb)
  have n6_ := Aside0.mk (below_step ERx.out hb)
  have n7_ := Aside0.mk (blk_below BKgx.out hb)
  have n8_ := Aside0.mk (Kd.S_below Sy.out hb)
  have n9_ := Aside0.mk (below_step ESy.out hb)
  clear BKga Fs EFs BKgs Rx HX ERx BKgx Sy ESy
  have BKga := n0_
  have Fs := n1_
  have EFs := n2_
  have BKgs := n3_
  have Rx := n4_
  have HX := n5_
  have ERx := n6_
  have BKgx := n7_
  have Sy := n8_
  have ESy := n9_
  clear n0_ n1_ n2_ n3_ n4_ n5_ n6_ n7_ n8_ n9_
  have Rg := Aside0.mk (Kd.R_mono (Kd.R_bound ho) (ok' := fun k_ => w11.heap.size ≤ k_ ∧ k_ < w12.heap.size) (fun _ hk => ⟨hk.2.1, hk.2.2.1⟩))
  have ERg := Aside0.mk (Below.refl w12.heap.size w12)
  have Z11_12 := Aside0.mk (below_size hb)
  clear ho hb
  go_wp2_with (first | ((with_reducible refine gt (some 11) rfl ?_); refine bx #[.int .i64 0, .int .i64 0, .int .i64 0, .string (⟨#[]⟩ : ByteArray), .slice none 0 0] 28 ?_; intro gg hg w13 hbox hb; have BKgg := Aside0.mk hbox; have GX_gg := Aside0.mk (show w12.heap.size ≤ gg by rw [hg]; exact Nat.le_refl _); have QFs := Aside0.mk (show w5.heap.size ≤ gg from Nat.le_trans (below_size EFs.out) GX_gg.out); have QRx := Aside0.mk (show w8.heap.size ≤ gg from Nat.le_trans (below_size ERx.out) GX_gg.out); have QSy := Aside0.mk (show w11.heap.size ≤ gg from Nat.le_trans (below_size ESy.out) GX_gg.out); have QRg := Aside0.mk (show w12.heap.size ≤ gg from Nat.le_trans (below_size ERg.out) GX_gg.out); have QEFs := Aside0.mk (show w5.heap.size ≤ gg from Nat.le_trans (below_size EFs.out) GX_gg.out); have QHX := Aside0.mk (show w7.heap.size ≤ gg from Nat.le_trans (below_size HX.out) GX_gg.out); have QERx := Aside0.mk (show w8.heap.size ≤ gg from Nat.le_trans (below_size ERx.out) GX_gg.out); have QESy := Aside0.mk (show w11.heap.size ≤ gg from Nat.le_trans (below_size ESy.out) GX_gg.out); have QERg := Aside0.mk (show w12.heap.size ≤ gg from Nat.le_trans (below_size ERg.out) GX_gg.out); have hnbggga : gg ≠ ga := (by have h_ := blk_lt BKga.out; have h2_ := GX_gg.out; omega); have hncggga : ga ≠ gg := Ne.symm hnbggga; have NBggga := Aside0.mk hncggga; have hnbgggs : gg ≠ gs := (by have h_ := blk_lt BKgs.out; have h2_ := GX_gg.out; omega); have hncgggs : gs ≠ gg := Ne.symm hnbgggs; have NBgggs := Aside0.mk hncgggs; have hnbgggx : gg ≠ gx := (by have h_ := blk_lt BKgx.out; have h2_ := GX_gg.out; omega); have hncgggx : gx ≠ gg := Ne.symm hnbgggx; have NBgggx := Aside0.mk hncgggx; have n0_ := Aside0.mk (blk_below BKga.out hb); have n1_ := Aside0.mk (Kd.F_below Fs.out hb); have n2_ := Aside0.mk (below_step EFs.out hb); have n3_ := Aside0.mk (blk_below BKgs.out hb); have n4_ := Aside0.mk (Kd.R_below Rx.out hb); have n5_ := Aside0.mk (below_step HX.out hb); have n6_ := Aside0.mk (below_step ERx.out hb); have n7_ := Aside0.mk (blk_below BKgx.out hb); have n8_ := Aside0.mk (Kd.S_below Sy.out hb); have n9_ := Aside0.mk (below_step ESy.out hb); have n10_ := Aside0.mk (Kd.R_below Rg.out hb); have n11_ := Aside0.mk (below_step ERg.out hb); clear BKga Fs EFs BKgs Rx HX ERx BKgx Sy ESy Rg ERg; have BKga := n0_; have Fs := n1_; have EFs := n2_; have BKgs := n3_; have Rx := n4_; have HX := n5_; have ERx := n6_; have BKgx := n7_; have Sy := n8_; have ESy := n9_; have Rg := n10_; have ERg := n11_; clear n0_ n1_ n2_ n3_ n4_ n5_ n6_ n7_ n8_ n9_ n10_ n11_; obtain ⟨hcga_0, hcga_1, hcga_2, hcga_3, hcga_4, _, _, _, _, _⟩ := cells5 BKga; obtain ⟨hcgs_0, hcgs_1, hcgs_2, hcgs_3, hcgs_4, _, _, _, _, _⟩ := cells5 BKgs; obtain ⟨hcgx_0, hcgx_1, hcgx_2, hcgx_3, hcgx_4, _, _, _, _, _⟩ := cells5 BKgx; obtain ⟨hz_0, hz_1, hz_2, hz_3, hz_4, hy_0, hy_1, hy_2, hy_3, hy_4⟩ := cells5 BKgg; clear hbox hb hg))
  have n0_ : Aside0 ((((((w13.setCell ⟨gg, 0, none⟩ (.int .i64 g0)).setCell ⟨gg, 1, none⟩ (.int .i64 g1)).setCell ⟨gg, 2, none⟩ (.int .i64 g2)).setCell ⟨gg, 3, none⟩ (.string g3)).setCell ⟨gg, 4, none⟩ (.slice X12 g4.length d12)).heap[gg]? = some (.cells #[.int .i64 g0, .int .i64 g1, .int .i64 g2, .string g3, .slice X12 g4.length d12] 28 (0, 0))) := ⟨by refine blk_put (cs := #[.int .i64 g0, .int .i64 g1, .int .i64 g2, .string g3, .slice none 0 0]) ?_ 4 _ rfl; refine blk_put (cs := #[.int .i64 g0, .int .i64 g1, .int .i64 g2, .string (⟨#[]⟩ : ByteArray), .slice none 0 0]) ?_ 3 _ rfl; refine blk_put (cs := #[.int .i64 g0, .int .i64 g1, .int .i64 0, .string (⟨#[]⟩ : ByteArray), .slice none 0 0]) ?_ 2 _ rfl; refine blk_put (cs := #[.int .i64 g0, .int .i64 0, .int .i64 0, .string (⟨#[]⟩ : ByteArray), .slice none 0 0]) ?_ 1 _ rfl; refine blk_put (cs := #[.int .i64 0, .int .i64 0, .int .i64 0, .string (⟨#[]⟩ : ByteArray), .slice none 0 0]) ?_ 0 _ rfl; exact BKgg.out⟩
  have n1_ := Aside0.mk (show (((((w13.setCell ⟨gg, 0, none⟩ (.int .i64 g0)).setCell ⟨gg, 1, none⟩ (.int .i64 g1)).setCell ⟨gg, 2, none⟩ (.int .i64 g2)).setCell ⟨gg, 3, none⟩ (.string g3)).setCell ⟨gg, 4, none⟩ (.slice X12 g4.length d12)).heap[ga]? = _ from blk_far (blk_far (blk_far (blk_far (blk_far BKga.out NBggga.out _) NBggga.out _) NBggga.out _) NBggga.out _) NBggga.out _)
  have n2_ := Aside0.mk (show (((((w13.setCell ⟨gg, 0, none⟩ (.int .i64 g0)).setCell ⟨gg, 1, none⟩ (.int .i64 g1)).setCell ⟨gg, 2, none⟩ (.int .i64 g2)).setCell ⟨gg, 3, none⟩ (.string g3)).setCell ⟨gg, 4, none⟩ (.slice X12 g4.length d12)).heap[gs]? = _ from blk_far (blk_far (blk_far (blk_far (blk_far BKgs.out NBgggs.out _) NBgggs.out _) NBgggs.out _) NBgggs.out _) NBgggs.out _)
  have n3_ := Aside0.mk (show (((((w13.setCell ⟨gg, 0, none⟩ (.int .i64 g0)).setCell ⟨gg, 1, none⟩ (.int .i64 g1)).setCell ⟨gg, 2, none⟩ (.int .i64 g2)).setCell ⟨gg, 3, none⟩ (.string g3)).setCell ⟨gg, 4, none⟩ (.slice X12 g4.length d12)).heap[gx]? = _ from blk_far (blk_far (blk_far (blk_far (blk_far BKgx.out NBgggx.out _) NBgggx.out _) NBgggx.out _) NBgggx.out _) NBgggx.out _)
  have n4_ := Aside0.mk (Kd.F_step Fs.out (W1 := (((((w13.setCell ⟨gg, 0, none⟩ (.int .i64 g0)).setCell ⟨gg, 1, none⟩ (.int .i64 g1)).setCell ⟨gg, 2, none⟩ (.int .i64 g2)).setCell ⟨gg, 3, none⟩ (.string g3)).setCell ⟨gg, 4, none⟩ (.slice X12 g4.length d12))) (fun k_ hk hlt => by have hne : k_ ≠ gg := (by have h3_ := hk; have h4_ := QFs.out; omega); rw [Below.heap_setCell _ ⟨gg, 4, none⟩ _ k_ hne, Below.heap_setCell _ ⟨gg, 3, none⟩ _ k_ hne, Below.heap_setCell _ ⟨gg, 2, none⟩ _ k_ hne, Below.heap_setCell _ ⟨gg, 1, none⟩ _ k_ hne, Below.heap_setCell _ ⟨gg, 0, none⟩ _ k_ hne]))
  have n5_ := Aside0.mk (Kd.R_step Rx.out (w1 := (((((w13.setCell ⟨gg, 0, none⟩ (.int .i64 g0)).setCell ⟨gg, 1, none⟩ (.int .i64 g1)).setCell ⟨gg, 2, none⟩ (.int .i64 g2)).setCell ⟨gg, 3, none⟩ (.string g3)).setCell ⟨gg, 4, none⟩ (.slice X12 g4.length d12))) (fun k_ hk hlt => by have hne : k_ ≠ gg := (by have h3_ := hk.2; have h4_ := QRx.out; omega); rw [Below.heap_setCell _ ⟨gg, 4, none⟩ _ k_ hne, Below.heap_setCell _ ⟨gg, 3, none⟩ _ k_ hne, Below.heap_setCell _ ⟨gg, 2, none⟩ _ k_ hne, Below.heap_setCell _ ⟨gg, 1, none⟩ _ k_ hne, Below.heap_setCell _ ⟨gg, 0, none⟩ _ k_ hne]))
  have n6_ := Aside0.mk (Kd.S_step Sy.out (w1 := (((((w13.setCell ⟨gg, 0, none⟩ (.int .i64 g0)).setCell ⟨gg, 1, none⟩ (.int .i64 g1)).setCell ⟨gg, 2, none⟩ (.int .i64 g2)).setCell ⟨gg, 3, none⟩ (.string g3)).setCell ⟨gg, 4, none⟩ (.slice X12 g4.length d12))) (fun k_ hk hlt => by have hne : k_ ≠ gg := (by have h3_ := hk.2; have h4_ := QSy.out; omega); rw [Below.heap_setCell _ ⟨gg, 4, none⟩ _ k_ hne, Below.heap_setCell _ ⟨gg, 3, none⟩ _ k_ hne, Below.heap_setCell _ ⟨gg, 2, none⟩ _ k_ hne, Below.heap_setCell _ ⟨gg, 1, none⟩ _ k_ hne, Below.heap_setCell _ ⟨gg, 0, none⟩ _ k_ hne]))
  have n7_ := Aside0.mk (Kd.R_step Rg.out (w1 := (((((w13.setCell ⟨gg, 0, none⟩ (.int .i64 g0)).setCell ⟨gg, 1, none⟩ (.int .i64 g1)).setCell ⟨gg, 2, none⟩ (.int .i64 g2)).setCell ⟨gg, 3, none⟩ (.string g3)).setCell ⟨gg, 4, none⟩ (.slice X12 g4.length d12))) (fun k_ hk hlt => by have hne : k_ ≠ gg := (by have h3_ := hk.2; have h4_ := QRg.out; omega); rw [Below.heap_setCell _ ⟨gg, 4, none⟩ _ k_ hne, Below.heap_setCell _ ⟨gg, 3, none⟩ _ k_ hne, Below.heap_setCell _ ⟨gg, 2, none⟩ _ k_ hne, Below.heap_setCell _ ⟨gg, 1, none⟩ _ k_ hne, Below.heap_setCell _ ⟨gg, 0, none⟩ _ k_ hne]))
  have n8_ : Aside0 (Below w5.heap.size w5 (((((w13.setCell ⟨gg, 0, none⟩ (.int .i64 g0)).setCell ⟨gg, 1, none⟩ (.int .i64 g1)).setCell ⟨gg, 2, none⟩ (.int .i64 g2)).setCell ⟨gg, 3, none⟩ (.string g3)).setCell ⟨gg, 4, none⟩ (.slice X12 g4.length d12))) := ⟨by have h1_ : w5.heap.size ≤ gg := QEFs.out; exact below_set (below_set (below_set (below_set (below_set (EFs.out) h1_) h1_) h1_) h1_) h1_⟩
  have n9_ : Aside0 (Below w7.heap.size w7 (((((w13.setCell ⟨gg, 0, none⟩ (.int .i64 g0)).setCell ⟨gg, 1, none⟩ (.int .i64 g1)).setCell ⟨gg, 2, none⟩ (.int .i64 g2)).setCell ⟨gg, 3, none⟩ (.string g3)).setCell ⟨gg, 4, none⟩ (.slice X12 g4.length d12))) := ⟨by have h1_ : w7.heap.size ≤ gg := QHX.out; exact below_set (below_set (below_set (below_set (below_set (HX.out) h1_) h1_) h1_) h1_) h1_⟩
  have n10_ : Aside0 (Below w8.heap.size w8 (((((w13.setCell ⟨gg, 0, none⟩ (.int .i64 g0)).setCell ⟨gg, 1, none⟩ (.int .i64 g1)).setCell ⟨gg, 2, none⟩ (.int .i64 g2)).setCell ⟨gg, 3, none⟩ (.string g3)).setCell ⟨gg, 4, none⟩ (.slice X12 g4.length d12))) := ⟨by have h1_ : w8.heap.size ≤ gg := QERx.out; exact below_set (below_set (below_set (below_set (below_set (ERx.out) h1_) h1_) h1_) h1_) h1_⟩
  have n11_ : Aside0 (Below w11.heap.size w11 (((((w13.setCell ⟨gg, 0, none⟩ (.int .i64 g0)).setCell ⟨gg, 1, none⟩ (.int .i64 g1)).setCell ⟨gg, 2, none⟩ (.int .i64 g2)).setCell ⟨gg, 3, none⟩ (.string g3)).setCell ⟨gg, 4, none⟩ (.slice X12 g4.length d12))) := ⟨by have h1_ : w11.heap.size ≤ gg := QESy.out; exact below_set (below_set (below_set (below_set (below_set (ESy.out) h1_) h1_) h1_) h1_) h1_⟩
  have n12_ : Aside0 (Below w12.heap.size w12 (((((w13.setCell ⟨gg, 0, none⟩ (.int .i64 g0)).setCell ⟨gg, 1, none⟩ (.int .i64 g1)).setCell ⟨gg, 2, none⟩ (.int .i64 g2)).setCell ⟨gg, 3, none⟩ (.string g3)).setCell ⟨gg, 4, none⟩ (.slice X12 g4.length d12))) := ⟨by have h1_ : w12.heap.size ≤ gg := QERg.out; exact below_set (below_set (below_set (below_set (below_set (ERg.out) h1_) h1_) h1_) h1_) h1_⟩
  generalize (((((w13.setCell ⟨gg, 0, none⟩ (.int .i64 g0)).setCell ⟨gg, 1, none⟩ (.int .i64 g1)).setCell ⟨gg, 2, none⟩ (.int .i64 g2)).setCell ⟨gg, 3, none⟩ (.string g3)).setCell ⟨gg, 4, none⟩ (.slice X12 g4.length d12)) = w14 at n0_ n1_ n2_ n3_ n4_ n5_ n6_ n7_ n8_ n9_ n10_ n11_ n12_ ⊢
  clear BKgg BKga BKgs BKgx Fs Rx Sy Rg EFs HX ERx ESy ERg
  have BKgg := n0_
  have BKga := n1_
  have BKgs := n2_
  have BKgx := n3_
  have Fs := n4_
  have Rx := n5_
  have Sy := n6_
  have Rg := n7_
  have EFs := n8_
  have HX := n9_
  have ERx := n10_
  have ESy := n11_
  have ERg := n12_
  clear n0_ n1_ n2_ n3_ n4_ n5_ n6_ n7_ n8_ n9_ n10_ n11_ n12_
  clear hz_0 hz_1 hz_2 hz_3 hz_4 hy_0 hy_1 hy_2 hy_3 hy_4 hcga_0 hcga_1 hcga_2 hcga_3 hcga_4 hcgs_0 hcgs_1 hcgs_2 hcgs_3 hcgs_4 hcgx_0 hcgx_1 hcgx_2 hcgx_3 hcgx_4
  clear QFs QRx QSy QRg QEFs QHX QERx QESy QERg
  have L12g := GX_gg
  go_at_call 12
  refine (laws_eqFeature.calls k g0 g1 g2 g3 X12 d12 g4 s0 s1 s2 s3 X5 d5 s4 true _ (Kd.R_reads' Rg.out).2.2 (Kd.R_reads' Rg.out).2.1 (Kd.F_now Fs.out) L5.out A6.out).mono ?_
  rintro e w15 ⟨rfl, hb⟩
  have n0_ := Aside0.mk (blk_below BKga.out hb)
  have n1_ := Aside0.mk (Kd.F_below Fs.out hb)
  have n2_ := Aside0.mk (below_step EFs.out hb)
  have n3_ := Aside0.mk (blk_below BKgs.out hb)
  have n4_ := Aside0.mk (Kd.R_below Rx.out hb)
  have n5_ := Aside0.mk (below_step HX.out hb)
  have n6_ := Aside0.mk (below_step ERx.out hb)
  have n7_ := Aside0.mk (blk_below BKgx.out hb)
  have n8_ := Aside0.mk (Kd.S_below Sy.out hb)
  have n9_ := Aside0.mk (below_step ESy.out hb)
  have n10_ := Aside0.mk (Kd.R_below Rg.out hb)
  have n11_ := Aside0.mk (below_step ERg.out hb)
  have n12_ := Aside0.mk (blk_below BKgg.out hb)
  clear BKga Fs EFs BKgs Rx HX ERx BKgx Sy ESy Rg ERg BKgg
  have BKga := n0_
  have Fs := n1_
  have EFs := n2_
  have BKgs := n3_
  have Rx := n4_
  have HX := n5_
  have ERx := n6_
  have BKgx := n7_
  have Sy := n8_
  have ESy := n9_
  have Rg := n10_
  have ERg := n11_
  have BKgg := n12_
  clear n0_ n1_ n2_ n3_ n4_ n5_ n6_ n7_ n8_ n9_ n10_ n11_ n12_
  clear hb
  clear EFs ERx ESy ERg
  go_wp2_with (fail)
  have n0_ := Aside0.mk (blk_drew BKga.out)
  have n1_ := Aside0.mk (Kd.F_drew Fs.out)
  have n2_ := Aside0.mk (blk_drew BKgs.out)
  have n3_ := Aside0.mk (Kd.R_drew Rx.out)
  have n4_ := Aside0.mk (below_drew1 HX.out)
  have n5_ := Aside0.mk (blk_drew BKgx.out)
  have n6_ := Aside0.mk (Kd.S_drew Sy.out)
  have n7_ := Aside0.mk (Kd.R_drew Rg.out)
  have n8_ := Aside0.mk (blk_drew BKgg.out)
  clear BKga Fs BKgs Rx HX BKgx Sy Rg BKgg
  have BKga := n0_
  have Fs := n1_
  have BKgs := n2_
  have Rx := n3_
  have HX := n4_
  have BKgx := n5_
  have Sy := n6_
  have Rg := n7_
  have BKgg := n8_
  clear n0_ n1_ n2_ n3_ n4_ n5_ n6_ n7_ n8_
  refine start_ (n := 5) (S := fun w' => w'.cell? ⟨gx, 0, none⟩ = some (.int .i64 x0) ∧ w'.cell? ⟨gx, 1, none⟩ = some (.int .i64 x1) ∧ w'.cell? ⟨gx, 2, none⟩ = some (.int .i64 x2) ∧ w'.cell? ⟨gx, 3, none⟩ = some (.string x3) ∧ w'.cell? ⟨gx, 4, none⟩ = some (.slice X8 x4.length d8) ∧ w'.cell? ⟨ga, 0, none⟩ = some (.int .i64 a0_0) ∧ w'.cell? ⟨ga, 1, none⟩ = some (.int .i64 a0_1) ∧ w'.cell? ⟨ga, 2, none⟩ = some (.int .i64 a0_2) ∧ w'.cell? ⟨ga, 3, none⟩ = some (.string a0_3) ∧ w'.cell? ⟨ga, 4, none⟩ = some (.slice A0_4 l0_4.length c0_4)) (ds := []) #[F,F,F,F,F] (by kernel_rfl) rfl rfl ⟨bc BKgx 0, bc BKgx 1, bc BKgx 2, bc BKgx 3, bc BKgx 4, bc BKga 0, bc BKga 1, bc BKga 2, bc BKga 3, bc BKga 4⟩ (fun hHeld => ?_)
  generalize w15.drew = w16 at BKga Fs BKgs Rx HX BKgx Sy Rg BKgg hHeld ⊢
  refine take_ (i := 0) (N := some 44) (v := ?_) (a' := ?_) #[T,F,F,F,F] rfl rfl (by kernel_rfl) (fun _ _ _ h => h) (Or.inl ⟨by rfl, ?_⟩) hHeld ?_ ?_
  rotate_left
  · rintro w' ⟨s0, s1, s2, s3, s4, s5, s6, s7, s8, s9⟩
    go_simp
    with_reducible rfl
  rotate_left
  · simp only [Act.put, List.setIfInBounds_toArray, List.set_cons_zero, List.set_cons_succ, i64_w, i32_w]
    rfl
  refine take_ (i := 1) (N := some 45) (v := ?_) (a' := ?_) #[T,T,F,F,F] rfl rfl (by kernel_rfl) (fun _ _ _ h => h) (Or.inl ⟨by rfl, ?_⟩) hHeld ?_ ?_
  rotate_left
  · rintro w' ⟨s0, s1, s2, s3, s4, s5, s6, s7, s8, s9⟩
    go_simp
    with_reducible rfl
  rotate_left
  · simp only [Act.put, List.setIfInBounds_toArray, List.set_cons_zero, List.set_cons_succ, i64_w, i32_w]
    rfl
  refine one_ (i := 2) (N := some 46) #[T,T,T,F,F] rfl rfl (by kernel_rfl) (by decide) (fun K hK => ?_)
  refine gz Try.func10 #[.agg #[.int .i64 a0_0, .int .i64 a0_1, .int .i64 a0_2, .string a0_3, .slice A0_4 l0_4.length c0_4]] ?_
  with_reducible refine (laws_toFeature.calls k a0_0 a0_1 a0_2 a0_3 _ _ l0_4 x0 x1 x2 x3 x4 _ (Kd.C_below HR0.out (below_step HB7.out HX.out)) HC0.out A2.out).mono ?_
  rintro e w17 ⟨v17, rfl, ho, hb⟩
  refine ⟨_, rfl, ?_⟩
  obtain ⟨X17, d17, e17⟩ := Kd.R_slice ho
  subst e17
  have Rq := Aside0.mk (Kd.R_reads' ho).2
  have n0_ := Aside0.mk (blk_below BKga.out hb)
  have n1_ := Aside0.mk (Kd.F_below Fs.out hb)
  have n2_ := Aside0.mk (blk_below BKgs.out hb)
  have n3_ := Aside0.mk (Kd.R_below Rx.out hb)
  have n4_ := Aside0.mk (below_step HX.out hb)
  have n5_ := Aside0.mk (blk_below BKgx.out hb)
  have n6_ := Aside0.mk (Kd.S_below Sy.out hb)
  have n7_ := Aside0.mk (Kd.R_below Rg.out hb)
  have n8_ := Aside0.mk (blk_below BKgg.out hb)
  clear BKga Fs BKgs Rx HX BKgx Sy Rg BKgg
  have BKga := n0_
  have Fs := n1_
  have BKgs := n2_
  have Rx := n3_
  have HX := n4_
  have BKgx := n5_
  have Sy := n6_
  have Rg := n7_
  have BKgg := n8_
  clear n0_ n1_ n2_ n3_ n4_ n5_ n6_ n7_ n8_
  clear ho hb
  refine hK.out _ _ ⟨bc BKgx 0, bc BKgx 1, bc BKgx 2, bc BKgx 3, bc BKgx 4, bc BKga 0, bc BKga 1, bc BKga 2, bc BKga 3, bc BKga 4⟩ (fun hHeld => ?_)
  clear hK K
  refine nz 46 ?_
  refine one_ (i := 3) (N := some 47) #[T,T,T,T,F] rfl rfl (by kernel_rfl) (by decide) (fun K hK => ?_)
  refine gz Try.func12 #[.agg #[.int .i64 x0, .int .i64 x1, .int .i64 x2, .string x3, .slice X8 x4.length d8], .agg #[.int .i64 x0, .int .i64 x1, .int .i64 x2, .string x3, .slice X17 x4.length d17]] ?_
  with_reducible refine (laws_eqFeature.calls k x0 x1 x2 x3 _ _ x4 x0 x1 x2 x3 _ _ x4 true _ (Kd.R_reads' Rx.out).2.2 (Kd.R_reads' Rx.out).2.1 Rq.out.2 Rq.out.1 A7.out).mono ?_
  rintro e w18 ⟨rfl, hb⟩
  refine ⟨_, rfl, ?_⟩
  have n0_ := Aside0.mk (blk_below BKga.out hb)
  have n1_ := Aside0.mk (Kd.F_below Fs.out hb)
  have n2_ := Aside0.mk (blk_below BKgs.out hb)
  have n3_ := Aside0.mk (Kd.R_below Rx.out hb)
  have n4_ := Aside0.mk (below_step HX.out hb)
  have n5_ := Aside0.mk (blk_below BKgx.out hb)
  have n6_ := Aside0.mk (Kd.S_below Sy.out hb)
  have n7_ := Aside0.mk (Kd.R_below Rg.out hb)
  have n8_ := Aside0.mk (blk_below BKgg.out hb)
  clear BKga Fs BKgs Rx HX BKgx Sy Rg BKgg
  have BKga := n0_
  have Fs := n1_
  have BKgs := n2_
  have Rx := n3_
  have HX := n4_
  have BKgx := n5_
  have Sy := n6_
  have Rg := n7_
  have BKgg := n8_
  clear n0_ n1_ n2_ n3_ n4_ n5_ n6_ n7_ n8_
  clear hb Rq
  refine hK.out _ _ ⟨bc BKgx 0, bc BKgx 1, bc BKgx 2, bc BKgx 3, bc BKgx 4, bc BKga 0, bc BKga 1, bc BKga 2, bc BKga 3, bc BKga 4⟩ (fun hHeld => ?_)
  clear hK K
  refine nz 47 ?_
  refine pure_ (i := 4) (N := some 48) (v := ?_) (a' := ?_) #[T,T,T,T,T] rfl rfl (by kernel_rfl) (fun _ _ _ h => h) (Or.inl ⟨by rfl, ?_⟩) ?_ ?_
  rotate_left
  · intro w'
    go_simp
    with_reducible rfl
  rotate_left
  · simp only [Act.put, List.setIfInBounds_toArray, List.set_cons_zero, List.set_cons_succ, i64_w, i32_w]
    rfl
  refine done_ (by kernel_rfl) ?_
  go_wp2_with (fail)
  go_at_call 17
  refine (laws_toFeatureS.calls k A1_ c1_ l1 y _ (Kd.C_below HR1.out (below_step HB7.out HX.out)) HC1.out A3.out).mono ?_
  rintro e w19 ⟨v19, rfl, ho, hb⟩
  obtain ⟨Y19, b19, e19⟩ := Kd.S_slice ho
  subst e19
  have Rq := Aside0.mk (Kd.S_reads' ho).2
  have n0_ := Aside0.mk (blk_below BKga.out hb)
  have n1_ := Aside0.mk (Kd.F_below Fs.out hb)
  have n2_ := Aside0.mk (blk_below BKgs.out hb)
  have n3_ := Aside0.mk (Kd.R_below Rx.out hb)
  have n4_ := Aside0.mk (below_step HX.out hb)
  have n5_ := Aside0.mk (blk_below BKgx.out hb)
  have n6_ := Aside0.mk (Kd.S_below Sy.out hb)
  have n7_ := Aside0.mk (Kd.R_below Rg.out hb)
  have n8_ := Aside0.mk (blk_below BKgg.out hb)
  clear BKga Fs BKgs Rx HX BKgx Sy Rg BKgg
  have BKga := n0_
  have Fs := n1_
  have BKgs := n2_
  have Rx := n3_
  have HX := n4_
  have BKgx := n5_
  have Sy := n6_
  have Rg := n7_
  have BKgg := n8_
  clear n0_ n1_ n2_ n3_ n4_ n5_ n6_ n7_ n8_
  clear ho hb
  go_wp2_with (fail)
  go_at_call 19
  refine (laws_eqFeatureS.calls k Y11 b11 y Y19 b19 y true _ (Kd.S_reads' Sy.out).2.2 (Kd.S_reads' Sy.out).2.1 Rq.out.2 Rq.out.1 A8.out).mono ?_
  rintro e w20 ⟨rfl, hb⟩
  have n0_ := Aside0.mk (blk_below BKga.out hb)
  have n1_ := Aside0.mk (Kd.F_below Fs.out hb)
  have n2_ := Aside0.mk (blk_below BKgs.out hb)
  have n3_ := Aside0.mk (Kd.R_below Rx.out hb)
  have n4_ := Aside0.mk (below_step HX.out hb)
  have n5_ := Aside0.mk (blk_below BKgx.out hb)
  have n6_ := Aside0.mk (Kd.S_below Sy.out hb)
  have n7_ := Aside0.mk (Kd.R_below Rg.out hb)
  have n8_ := Aside0.mk (blk_below BKgg.out hb)
  clear BKga Fs BKgs Rx HX BKgx Sy Rg BKgg
  have BKga := n0_
  have Fs := n1_
  have BKgs := n2_
  have Rx := n3_
  have HX := n4_
  have BKgx := n5_
  have Sy := n6_
  have Rg := n7_
  have BKgg := n8_
  clear n0_ n1_ n2_ n3_ n4_ n5_ n6_ n7_ n8_
  clear hb Rq
  obtain ⟨c20_0, c20_1, c20_2, c20_3, c20_4, _, _, _, _, _⟩ := cells5 BKgx
  go_wp2_with (fail)
  clear c20_0 c20_1 c20_2 c20_3 c20_4
  go_at_call 13
  refine (laws_markFeature.calls k x0 x1 x2 x3 (fun k_ => w7.heap.size ≤ k_ ∧ k_ < w8.heap.size) (.slice X8 x4.length d8) x4 1 mx Mx w7 _ HX.out Rx.out A9.out).mono ?_
  rintro e w21 ⟨rfl, hr_, hb, hk⟩
  clear hr_
  clear Rx
  have n0_ := Aside0.mk (blk_kept BKga.out hk (fun hs => by have h1_ := hs.1; have h2_ := hs.2; have z1_ := LTa.out; have z2_ := LTs.out; have z3_ := LTx.out; have z4_ := Z57.out; have z5_ := Z7_10.out; have z6_ := Z8_10.out; have z7_ := Z10_11.out; have z8_ := Z11_12.out; have z9_ := L12g.out; have z10_ := GX_gx.out; omega))
  have n1_ := Aside0.mk (Kd.F_step Fs.out (fun k_ hk1 hlt => hk.2 k_ hlt (fun hs => by have h1_ := hs.1; have h2_ := hs.2; have z1_ := LTa.out; have z2_ := LTs.out; have z3_ := LTx.out; have z4_ := Z57.out; have z5_ := Z7_10.out; have z6_ := Z8_10.out; have z7_ := Z10_11.out; have z8_ := Z11_12.out; have z9_ := L12g.out; have z10_ := GX_gx.out; omega)))
  have n2_ := Aside0.mk (blk_kept BKgs.out hk (fun hs => by have h1_ := hs.1; have h2_ := hs.2; have z1_ := LTa.out; have z2_ := LTs.out; have z3_ := LTx.out; have z4_ := Z57.out; have z5_ := Z7_10.out; have z6_ := Z8_10.out; have z7_ := Z10_11.out; have z8_ := Z11_12.out; have z9_ := L12g.out; have z10_ := GX_gx.out; omega))
  have n3_ := Aside0.mk (blk_kept BKgx.out hk (fun hs => by have h1_ := hs.1; have h2_ := hs.2; have z1_ := LTa.out; have z2_ := LTs.out; have z3_ := LTx.out; have z4_ := Z57.out; have z5_ := Z7_10.out; have z6_ := Z8_10.out; have z7_ := Z10_11.out; have z8_ := Z11_12.out; have z9_ := L12g.out; have z10_ := GX_gx.out; omega))
  have n4_ := Aside0.mk (Kd.S_step Sy.out (fun k_ hk1 hlt => hk.2 k_ hlt (fun hs => by have h1_ := hs.1; have h2_ := hs.2; have h3_ := hk1.1; have h4_ := hk1.2; have z1_ := LTa.out; have z2_ := LTs.out; have z3_ := LTx.out; have z4_ := Z57.out; have z5_ := Z7_10.out; have z6_ := Z8_10.out; have z7_ := Z10_11.out; have z8_ := Z11_12.out; have z9_ := L12g.out; have z10_ := GX_gx.out; omega)))
  have n5_ := Aside0.mk (Kd.R_step Rg.out (fun k_ hk1 hlt => hk.2 k_ hlt (fun hs => by have h1_ := hs.1; have h2_ := hs.2; have h3_ := hk1.1; have h4_ := hk1.2; have z1_ := LTa.out; have z2_ := LTs.out; have z3_ := LTx.out; have z4_ := Z57.out; have z5_ := Z7_10.out; have z6_ := Z8_10.out; have z7_ := Z10_11.out; have z8_ := Z11_12.out; have z9_ := L12g.out; have z10_ := GX_gx.out; omega)))
  have n6_ := Aside0.mk (blk_kept BKgg.out hk (fun hs => by have h1_ := hs.1; have h2_ := hs.2; have z1_ := LTa.out; have z2_ := LTs.out; have z3_ := LTx.out; have z4_ := Z57.out; have z5_ := Z7_10.out; have z6_ := Z8_10.out; have z7_ := Z10_11.out; have z8_ := Z11_12.out; have z9_ := L12g.out; have z10_ := GX_gx.out; omega))
  clear BKga Fs BKgs BKgx Sy Rg BKgg HX
  have BKga := n0_
  have Fs := n1_
  have BKgs := n2_
  have BKgx := n3_
  have Sy := n4_
  have Rg := n5_
  have BKgg := n6_
  clear n0_ n1_ n2_ n3_ n4_ n5_ n6_
  have HX := Aside0.mk hb
  clear hb hk
  go_wp2_with (fail)
  go_at_call 22
  refine (mf_any (fun k_ => w10.heap.size ≤ k_ ∧ k_ < w11.heap.size) (.slice Y11 y.length b11) y mx w7 _ HX.out (Kd.S_R (Kd.S_lower Sy.out Z7_10.out)) MX0.out MX.out).mono ?_
  rintro e w22 ⟨rfl, hb, hk⟩
  clear Sy
  have n0_ := Aside0.mk (blk_kept BKga.out hk (fun hs => by have h1_ := hs.1; have h2_ := hs.2; have z1_ := LTa.out; have z2_ := LTs.out; have z3_ := LTx.out; have z4_ := Z57.out; have z5_ := Z7_10.out; have z6_ := Z8_10.out; have z7_ := Z10_11.out; have z8_ := Z11_12.out; have z9_ := L12g.out; have z10_ := GX_gx.out; omega))
  have n1_ := Aside0.mk (Kd.F_step Fs.out (fun k_ hk1 hlt => hk.2 k_ hlt (fun hs => by have h1_ := hs.1; have h2_ := hs.2; have z1_ := LTa.out; have z2_ := LTs.out; have z3_ := LTx.out; have z4_ := Z57.out; have z5_ := Z7_10.out; have z6_ := Z8_10.out; have z7_ := Z10_11.out; have z8_ := Z11_12.out; have z9_ := L12g.out; have z10_ := GX_gx.out; omega)))
  have n2_ := Aside0.mk (blk_kept BKgs.out hk (fun hs => by have h1_ := hs.1; have h2_ := hs.2; have z1_ := LTa.out; have z2_ := LTs.out; have z3_ := LTx.out; have z4_ := Z57.out; have z5_ := Z7_10.out; have z6_ := Z8_10.out; have z7_ := Z10_11.out; have z8_ := Z11_12.out; have z9_ := L12g.out; have z10_ := GX_gx.out; omega))
  have n3_ := Aside0.mk (blk_kept BKgx.out hk (fun hs => by have h1_ := hs.1; have h2_ := hs.2; have z1_ := LTa.out; have z2_ := LTs.out; have z3_ := LTx.out; have z4_ := Z57.out; have z5_ := Z7_10.out; have z6_ := Z8_10.out; have z7_ := Z10_11.out; have z8_ := Z11_12.out; have z9_ := L12g.out; have z10_ := GX_gx.out; omega))
  have n4_ := Aside0.mk (Kd.R_step Rg.out (fun k_ hk1 hlt => hk.2 k_ hlt (fun hs => by have h1_ := hs.1; have h2_ := hs.2; have h3_ := hk1.1; have h4_ := hk1.2; have z1_ := LTa.out; have z2_ := LTs.out; have z3_ := LTx.out; have z4_ := Z57.out; have z5_ := Z7_10.out; have z6_ := Z8_10.out; have z7_ := Z10_11.out; have z8_ := Z11_12.out; have z9_ := L12g.out; have z10_ := GX_gx.out; omega)))
  have n5_ := Aside0.mk (blk_kept BKgg.out hk (fun hs => by have h1_ := hs.1; have h2_ := hs.2; have z1_ := LTa.out; have z2_ := LTs.out; have z3_ := LTx.out; have z4_ := Z57.out; have z5_ := Z7_10.out; have z6_ := Z8_10.out; have z7_ := Z10_11.out; have z8_ := Z11_12.out; have z9_ := L12g.out; have z10_ := GX_gx.out; omega))
  clear BKga Fs BKgs BKgx Rg BKgg HX
  have BKga := n0_
  have Fs := n1_
  have BKgs := n2_
  have BKgx := n3_
  have Rg := n4_
  have BKgg := n5_
  clear n0_ n1_ n2_ n3_ n4_ n5_
  have HX := Aside0.mk hb
  clear hb hk
  obtain ⟨c22_0, c22_1, c22_2, c22_3, c22_4, _, _, _, _, _⟩ := cells5 BKgg
  obtain ⟨s22_0, s22_1, s22_2, s22_3, s22_4, _, _, _, _, _⟩ := cells5 BKgs
  go_wp2_with (fail)
  clear c22_0 s22_0 c22_1 s22_1 c22_2 s22_2 c22_3 s22_3 c22_4 s22_4
  go_at_call 12
  refine (laws_eqFeature.calls k g0 g1 g2 g3 X12 d12 g4 s0 s1 s2 s3 X5 d5 s4 true _ (Kd.R_reads' Rg.out).2.2 (Kd.R_reads' Rg.out).2.1 (Kd.F_now Fs.out) L5.out A6.out).mono ?_
  rintro e w23 ⟨rfl, hb⟩
  have n0_ := Aside0.mk (blk_below BKga.out hb)
  have n1_ := Aside0.mk (Kd.F_below Fs.out hb)
  have n2_ := Aside0.mk (blk_below BKgs.out hb)
  have n3_ := Aside0.mk (below_step HX.out hb)
  have n4_ := Aside0.mk (blk_below BKgx.out hb)
  have n5_ := Aside0.mk (Kd.R_below Rg.out hb)
  have n6_ := Aside0.mk (blk_below BKgg.out hb)
  clear BKga Fs BKgs HX BKgx Rg BKgg
  have BKga := n0_
  have Fs := n1_
  have BKgs := n2_
  have HX := n3_
  have BKgx := n4_
  have Rg := n5_
  have BKgg := n6_
  clear n0_ n1_ n2_ n3_ n4_ n5_ n6_
  clear hb
  obtain ⟨c23_0, c23_1, c23_2, c23_3, c23_4, _, _, _, _, _⟩ := cells5 BKgg
  go_wp2_with (fail)
  clear c23_0 c23_1 c23_2 c23_3 c23_4
  go_at_call 13
  refine (laws_markFeature.calls k g0 g1 g2 g3 (fun k_ => w11.heap.size ≤ k_ ∧ k_ < w12.heap.size) (.slice X12 g4.length d12) g4 1 q Mg w7 _ HX.out (Kd.R_lower Rg.out (by have z1_ := LTa.out; have z2_ := LTs.out; have z3_ := LTx.out; have z4_ := Z57.out; have z5_ := Z7_10.out; have z6_ := Z8_10.out; have z7_ := Z10_11.out; have z8_ := Z11_12.out; omega)) A10.out).mono ?_
  rintro e w24 ⟨rfl, hr_, hb, hk⟩
  obtain ⟨hl_, hc_, hC_⟩ := Kd.R_reads' hr_
  have Cg := Aside0.mk hC_
  have Lg := Aside0.mk (show Mg.length ≤ d12 by rw [← hl_]; exact hc_)
  clear Rg hr_ hC_ hc_
  have n0_ := Aside0.mk (blk_kept BKga.out hk (fun hs => by have h1_ := hs.1; have h2_ := hs.2; have z1_ := LTa.out; have z2_ := LTs.out; have z3_ := LTx.out; have z4_ := Z57.out; have z5_ := Z7_10.out; have z6_ := Z8_10.out; have z7_ := Z10_11.out; have z8_ := Z11_12.out; have z9_ := L12g.out; have z10_ := GX_gx.out; omega))
  have n1_ := Aside0.mk (Kd.F_step Fs.out (fun k_ hk1 hlt => hk.2 k_ hlt (fun hs => by have h1_ := hs.1; have h2_ := hs.2; have z1_ := LTa.out; have z2_ := LTs.out; have z3_ := LTx.out; have z4_ := Z57.out; have z5_ := Z7_10.out; have z6_ := Z8_10.out; have z7_ := Z10_11.out; have z8_ := Z11_12.out; have z9_ := L12g.out; have z10_ := GX_gx.out; omega)))
  have n2_ := Aside0.mk (blk_kept BKgs.out hk (fun hs => by have h1_ := hs.1; have h2_ := hs.2; have z1_ := LTa.out; have z2_ := LTs.out; have z3_ := LTx.out; have z4_ := Z57.out; have z5_ := Z7_10.out; have z6_ := Z8_10.out; have z7_ := Z10_11.out; have z8_ := Z11_12.out; have z9_ := L12g.out; have z10_ := GX_gx.out; omega))
  have n3_ := Aside0.mk (blk_kept BKgx.out hk (fun hs => by have h1_ := hs.1; have h2_ := hs.2; have z1_ := LTa.out; have z2_ := LTs.out; have z3_ := LTx.out; have z4_ := Z57.out; have z5_ := Z7_10.out; have z6_ := Z8_10.out; have z7_ := Z10_11.out; have z8_ := Z11_12.out; have z9_ := L12g.out; have z10_ := GX_gx.out; omega))
  have n4_ := Aside0.mk (blk_kept BKgg.out hk (fun hs => by have h1_ := hs.1; have h2_ := hs.2; have z1_ := LTa.out; have z2_ := LTs.out; have z3_ := LTx.out; have z4_ := Z57.out; have z5_ := Z7_10.out; have z6_ := Z8_10.out; have z7_ := Z10_11.out; have z8_ := Z11_12.out; have z9_ := L12g.out; have z10_ := GX_gx.out; omega))
  clear BKga Fs BKgs BKgx BKgg HX
  have BKga := n0_
  have Fs := n1_
  have BKgs := n2_
  have BKgx := n3_
  have BKgg := n4_
  clear n0_ n1_ n2_ n3_ n4_
  have HX := Aside0.mk hb
  clear hb hk
  rw [hl_] at BKgg
  clear hl_
  obtain ⟨c24_0, c24_1, c24_2, c24_3, c24_4, _, _, _, _, _⟩ := cells5 BKgg
  go_wp2_with (fail)
  clear c24_0 c24_1 c24_2 c24_3 c24_4
  go_at_call 14
  refine (laws_heldFeature.calls k g0 g1 g2 g3 X12 d12 Mg 1 q _ Cg.out Lg.out A11.out).mono ?_
  rintro e w25 ⟨rfl, hb⟩
  have n0_ := Aside0.mk (blk_below BKga.out hb)
  have n1_ := Aside0.mk (Kd.F_below Fs.out hb)
  have n2_ := Aside0.mk (blk_below BKgs.out hb)
  have n3_ := Aside0.mk (below_step HX.out hb)
  have n4_ := Aside0.mk (blk_below BKgx.out hb)
  have n5_ := Aside0.mk (blk_below BKgg.out hb)
  have n6_ := Aside0.mk (Kd.C_below Cg.out hb)
  clear BKga Fs BKgs HX BKgx BKgg Cg
  have BKga := n0_
  have Fs := n1_
  have BKgs := n2_
  have HX := n3_
  have BKgx := n4_
  have BKgg := n5_
  have Cg := n6_
  clear n0_ n1_ n2_ n3_ n4_ n5_ n6_
  clear hb
  obtain ⟨c25_0, c25_1, c25_2, c25_3, c25_4, _, _, _, _, _⟩ := cells5 BKga
  go_wp2_with (fail)
  clear c25_0 c25_1 c25_2 c25_3 c25_4
  go_at_call 10
  refine (laws_toFeature.calls k a0_0 a0_1 a0_2 a0_3 A0_4 c0_4 l0_4 x0 x1 x2 x3 x4 _ (Kd.C_below HR0.out (below_step HB7.out HX.out)) HC0.out A2.out).mono ?_
  rintro e w26 ⟨v26, rfl, ho, hb⟩
  obtain ⟨X26, d26, e26⟩ := Kd.R_slice ho
  subst e26
  have n0_ := Aside0.mk (blk_below BKga.out hb)
  have n1_ := Aside0.mk (Kd.F_below Fs.out hb)
  have n2_ := Aside0.mk (blk_below BKgs.out hb)
  have n3_ := Aside0.mk (below_step HX.out hb)
  have n4_ := Aside0.mk (blk_below BKgx.out hb)
  have n5_ := Aside0.mk (blk_below BKgg.out hb)
  have n6_ := Aside0.mk (Kd.C_below Cg.out hb)
  clear BKga Fs BKgs HX BKgx BKgg Cg
  have BKga := n0_
  have Fs := n1_
  have BKgs := n2_
  have HX := n3_
  have BKgx := n4_
  have BKgg := n5_
  have Cg := n6_
  clear n0_ n1_ n2_ n3_ n4_ n5_ n6_
  have Lq := Aside0.mk (Kd.R_reads' ho).2.1
  have Cq := Aside0.mk (Kd.R_reads' ho).2.2
  clear ho hb
  go_wp2_with (fail)
  go_at_call 17
  refine (laws_toFeatureS.calls k A1_ c1_ l1 y _ (Kd.C_below HR1.out (below_step HB7.out HX.out)) HC1.out A3.out).mono ?_
  rintro e w27 ⟨v27, rfl, ho, hb⟩
  obtain ⟨Y27, b27, e27⟩ := Kd.S_slice ho
  subst e27
  have Ry := Aside0.mk (Kd.S_reads' ho).2
  have n0_ := Aside0.mk (blk_below BKga.out hb)
  have n1_ := Aside0.mk (Kd.F_below Fs.out hb)
  have n2_ := Aside0.mk (blk_below BKgs.out hb)
  have n3_ := Aside0.mk (below_step HX.out hb)
  have n4_ := Aside0.mk (blk_below BKgx.out hb)
  have n5_ := Aside0.mk (blk_below BKgg.out hb)
  have n6_ := Aside0.mk (Kd.C_below Cg.out hb)
  have n7_ := Aside0.mk (Kd.C_below Cq.out hb)
  clear BKga Fs BKgs HX BKgx BKgg Cg Cq
  have BKga := n0_
  have Fs := n1_
  have BKgs := n2_
  have HX := n3_
  have BKgx := n4_
  have BKgg := n5_
  have Cg := n6_
  have Cq := n7_
  clear n0_ n1_ n2_ n3_ n4_ n5_ n6_ n7_
  clear ho hb
  go_wp2_with (fail)
  go_at_call 21
  refine (impl_ShrinkFeature.calls k x0 x1 x2 x3 X26 d26 x4 Y27 b27 y a2 g0 g1 g2 g3 g4 _ Cq.out Lq.out Ry.out.2 Ry.out.1 A5.out).mono ?_
  rintro e w28 ⟨v28, rfl, ho, hb⟩
  obtain ⟨X28, d28, e28⟩ := Kd.R_slice ho
  subst e28
  have n0_ := Aside0.mk (blk_below BKga.out hb)
  have n1_ := Aside0.mk (Kd.F_below Fs.out hb)
  have n2_ := Aside0.mk (blk_below BKgs.out hb)
  have n3_ := Aside0.mk (below_step HX.out hb)
  have n4_ := Aside0.mk (blk_below BKgx.out hb)
  have n5_ := Aside0.mk (blk_below BKgg.out hb)
  have n6_ := Aside0.mk (Kd.C_below Cg.out hb)
  have n7_ := Aside0.mk (Kd.C_below Cq.out hb)
  clear BKga Fs BKgs HX BKgx BKgg Cg Cq
  have BKga := n0_
  have Fs := n1_
  have BKgs := n2_
  have HX := n3_
  have BKgx := n4_
  have BKgg := n5_
  have Cg := n6_
  have Cq := n7_
  clear n0_ n1_ n2_ n3_ n4_ n5_ n6_ n7_
  clear Cq Ry Lq
  have Rh := Aside0.mk (Kd.R_mono (Kd.R_bound ho) (ok' := fun k_ => w27.heap.size ≤ k_ ∧ k_ < w28.heap.size) (fun _ hk => ⟨hk.2.1, hk.2.2.1⟩))
  have ERh := Aside0.mk (Below.refl w28.heap.size w28)
  have Z5_28 := Aside0.mk (show w5.heap.size ≤ w28.heap.size from Nat.le_trans Z57.out (below_size HX.out))
  clear ho hb
  go_wp2_with (first | ((with_reducible refine gt (some 15) rfl ?_); refine bx #[.int .i64 0, .int .i64 0, .int .i64 0, .string (⟨#[]⟩ : ByteArray), .slice none 0 0] 28 ?_; intro gh hg w29 hbox hb; have BKgh := Aside0.mk hbox; have GX_gh := Aside0.mk (show w28.heap.size ≤ gh by rw [hg]; exact Nat.le_refl _); have QHX := Aside0.mk (show w7.heap.size ≤ gh from Nat.le_trans (below_size HX.out) GX_gh.out); have QERh := Aside0.mk (show w28.heap.size ≤ gh from Nat.le_trans (below_size ERh.out) GX_gh.out); have hnbghgs : gh ≠ gs := (by have h_ := blk_lt BKgs.out; have h2_ := GX_gh.out; omega); have hncghgs : gs ≠ gh := Ne.symm hnbghgs; have NBghgs := Aside0.mk hncghgs; have n0_ := Aside0.mk (blk_below BKgs.out hb); have n1_ := Aside0.mk (below_step HX.out hb); have n2_ := Aside0.mk (below_step ERh.out hb); clear BKgs HX ERh; have BKgs := n0_; have HX := n1_; have ERh := n2_; clear n0_ n1_ n2_; obtain ⟨hcgs_0, hcgs_1, hcgs_2, hcgs_3, hcgs_4, _, _, _, _, _⟩ := cells5 BKgs; obtain ⟨hz_0, hz_1, hz_2, hz_3, hz_4, hy_0, hy_1, hy_2, hy_3, hy_4⟩ := cells5 BKgh; clear hbox hb hg))
  have n0_ : Aside0 ((((((w29.setCell ⟨gh, 0, none⟩ (.int .i64 g0)).setCell ⟨gh, 1, none⟩ (.int .i64 g1)).setCell ⟨gh, 2, none⟩ (.int .i64 g2)).setCell ⟨gh, 3, none⟩ (.string g3)).setCell ⟨gh, 4, none⟩ (.slice X28 g4.length d28)).heap[gh]? = some (.cells #[.int .i64 g0, .int .i64 g1, .int .i64 g2, .string g3, .slice X28 g4.length d28] 28 (0, 0))) := ⟨by refine blk_put (cs := #[.int .i64 g0, .int .i64 g1, .int .i64 g2, .string g3, .slice none 0 0]) ?_ 4 _ rfl; refine blk_put (cs := #[.int .i64 g0, .int .i64 g1, .int .i64 g2, .string (⟨#[]⟩ : ByteArray), .slice none 0 0]) ?_ 3 _ rfl; refine blk_put (cs := #[.int .i64 g0, .int .i64 g1, .int .i64 0, .string (⟨#[]⟩ : ByteArray), .slice none 0 0]) ?_ 2 _ rfl; refine blk_put (cs := #[.int .i64 g0, .int .i64 0, .int .i64 0, .string (⟨#[]⟩ : ByteArray), .slice none 0 0]) ?_ 1 _ rfl; refine blk_put (cs := #[.int .i64 0, .int .i64 0, .int .i64 0, .string (⟨#[]⟩ : ByteArray), .slice none 0 0]) ?_ 0 _ rfl; exact BKgh.out⟩
  have n1_ := Aside0.mk (show (((((w29.setCell ⟨gh, 0, none⟩ (.int .i64 g0)).setCell ⟨gh, 1, none⟩ (.int .i64 g1)).setCell ⟨gh, 2, none⟩ (.int .i64 g2)).setCell ⟨gh, 3, none⟩ (.string g3)).setCell ⟨gh, 4, none⟩ (.slice X28 g4.length d28)).heap[gs]? = _ from blk_far (blk_far (blk_far (blk_far (blk_far BKgs.out NBghgs.out _) NBghgs.out _) NBghgs.out _) NBghgs.out _) NBghgs.out _)
  have n2_ : Aside0 (Below w7.heap.size w7 (((((w29.setCell ⟨gh, 0, none⟩ (.int .i64 g0)).setCell ⟨gh, 1, none⟩ (.int .i64 g1)).setCell ⟨gh, 2, none⟩ (.int .i64 g2)).setCell ⟨gh, 3, none⟩ (.string g3)).setCell ⟨gh, 4, none⟩ (.slice X28 g4.length d28))) := ⟨by have h1_ : w7.heap.size ≤ gh := QHX.out; exact below_set (below_set (below_set (below_set (below_set (HX.out) h1_) h1_) h1_) h1_) h1_⟩
  have n3_ : Aside0 (Below w28.heap.size w28 (((((w29.setCell ⟨gh, 0, none⟩ (.int .i64 g0)).setCell ⟨gh, 1, none⟩ (.int .i64 g1)).setCell ⟨gh, 2, none⟩ (.int .i64 g2)).setCell ⟨gh, 3, none⟩ (.string g3)).setCell ⟨gh, 4, none⟩ (.slice X28 g4.length d28))) := ⟨by have h1_ : w28.heap.size ≤ gh := QERh.out; exact below_set (below_set (below_set (below_set (below_set (ERh.out) h1_) h1_) h1_) h1_) h1_⟩
  generalize (((((w29.setCell ⟨gh, 0, none⟩ (.int .i64 g0)).setCell ⟨gh, 1, none⟩ (.int .i64 g1)).setCell ⟨gh, 2, none⟩ (.int .i64 g2)).setCell ⟨gh, 3, none⟩ (.string g3)).setCell ⟨gh, 4, none⟩ (.slice X28 g4.length d28)) = w30 at n0_ n1_ n2_ n3_ ⊢
  clear BKgh BKgs HX ERh
  have BKgh := n0_
  have BKgs := n1_
  have HX := n2_
  have ERh := n3_
  clear n0_ n1_ n2_ n3_
  clear hz_0 hz_1 hz_2 hz_3 hz_4 hy_0 hy_1 hy_2 hy_3 hy_4 hcgs_0 hcgs_1 hcgs_2 hcgs_3 hcgs_4
  clear QHX QERh
  have n0_ := Aside0.mk (blk_below BKga.out ERh.out)
  have n1_ := Aside0.mk (Kd.F_below Fs.out ERh.out)
  have n2_ := Aside0.mk (blk_below BKgx.out ERh.out)
  have n3_ := Aside0.mk (blk_below BKgg.out ERh.out)
  have n4_ := Aside0.mk (Kd.C_below Cg.out ERh.out)
  have n5_ := Aside0.mk (Kd.R_below Rh.out ERh.out)
  clear BKga Fs BKgx BKgg Cg Rh
  have BKga := n0_
  have Fs := n1_
  have BKgx := n2_
  have BKgg := n3_
  have Cg := n4_
  have Rh := n5_
  clear n0_ n1_ n2_ n3_ n4_ n5_
  go_at_call 12
  refine (laws_eqFeature.calls k g0 g1 g2 g3 X28 d28 g4 s0 s1 s2 s3 X5 d5 s4 true _ (Kd.R_reads' Rh.out).2.2 (Kd.R_reads' Rh.out).2.1 (Kd.F_now Fs.out) L5.out A6.out).mono ?_
  rintro e w31 ⟨rfl, hb⟩
  have n0_ := Aside0.mk (blk_below BKgs.out hb)
  have n1_ := Aside0.mk (below_step HX.out hb)
  have n2_ := Aside0.mk (below_step ERh.out hb)
  have n3_ := Aside0.mk (blk_below BKgh.out hb)
  have n4_ := Aside0.mk (blk_below BKga.out hb)
  have n5_ := Aside0.mk (Kd.F_below Fs.out hb)
  have n6_ := Aside0.mk (blk_below BKgx.out hb)
  have n7_ := Aside0.mk (blk_below BKgg.out hb)
  have n8_ := Aside0.mk (Kd.C_below Cg.out hb)
  have n9_ := Aside0.mk (Kd.R_below Rh.out hb)
  clear BKgs HX ERh BKgh BKga Fs BKgx BKgg Cg Rh
  have BKgs := n0_
  have HX := n1_
  have ERh := n2_
  have BKgh := n3_
  have BKga := n4_
  have Fs := n5_
  have BKgx := n6_
  have BKgg := n7_
  have Cg := n8_
  have Rh := n9_
  clear n0_ n1_ n2_ n3_ n4_ n5_ n6_ n7_ n8_ n9_
  clear hb
  obtain ⟨c31_0, c31_1, c31_2, c31_3, c31_4, _, _, _, _, _⟩ := cells5 BKgg
  go_wp2_with (fail)
  clear c31_0 c31_1 c31_2 c31_3 c31_4
  go_at_call 14
  refine (laws_heldFeature.calls k g0 g1 g2 g3 X12 d12 Mg 1 q _ Cg.out Lg.out A11.out).mono ?_
  rintro e w32 ⟨rfl, hb⟩
  have n0_ := Aside0.mk (blk_below BKgs.out hb)
  have n1_ := Aside0.mk (below_step HX.out hb)
  have n2_ := Aside0.mk (below_step ERh.out hb)
  have n3_ := Aside0.mk (blk_below BKgh.out hb)
  have n4_ := Aside0.mk (blk_below BKga.out hb)
  have n5_ := Aside0.mk (Kd.F_below Fs.out hb)
  have n6_ := Aside0.mk (blk_below BKgx.out hb)
  have n7_ := Aside0.mk (blk_below BKgg.out hb)
  have n8_ := Aside0.mk (Kd.C_below Cg.out hb)
  have n9_ := Aside0.mk (Kd.R_below Rh.out hb)
  clear BKgs HX ERh BKgh BKga Fs BKgx BKgg Cg Rh
  have BKgs := n0_
  have HX := n1_
  have ERh := n2_
  have BKgh := n3_
  have BKga := n4_
  have Fs := n5_
  have BKgx := n6_
  have BKgg := n7_
  have Cg := n8_
  have Rh := n9_
  clear n0_ n1_ n2_ n3_ n4_ n5_ n6_ n7_ n8_ n9_
  clear hb
  go_wp2_with (fail)
  go_ret
  exact ⟨rfl, below_step HB7.out HX.out⟩
end
end Go.Proofs.Ytkebhlkbnnlegaa.PFnExactShrinkFeature
